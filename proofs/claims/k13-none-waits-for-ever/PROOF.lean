import PyProof.Rows.All
import Wide.All
import OpenK.AllK
import Wide.FinOn
import KE.KStateDown
import Lean
import HandS.ForMost
import HandS.ForExc
import HandS.Defaults
import HandS.MakeKwOnly
import HandS.IsInst
import HandS.Conv
import HandS.Flow
import KE.SortKeyHeap
import HandS.ClsMeth
import HandS.More
import HandS.Lambda
import HandS.SortKw
import KE.KItemsList
import HandS.ListItems
import HandS.HeadHook2
import HandS.HeadHook1
import HandS.HeadHook4
import HandS.TupAny
import HandS.Small
import HandS.Walk
import HandS.Star
import PyProof.EnumIter
import PyProof.EnumMake
import PyProof.TupleIter
import KE.SortKeyed
import HandS.WordsExc
import HandS.TryOnly
import PyProof.EqAt
import PyProof.EqKinds
import PyProof.TupleCall
import HandS.Set
import HandS.SetFor
import HandS.Strs
import HandS.DictComp
import HandS.Wide
import HandS.Style
import HandS.Codes
import HandS.Head0
import HandS.Head1
import HandS.Head2
import HandS.HeadEnd
import HandS.EndTab
import HandS.HeadWalk
import PySem.Challenge.RW_laterhouse_k13_whole_none_waits_for_ever
section
set_option Elab.async false
set_option linter.all false
set_option maxRecDepth 100000
set_option maxHeartbeats 4000000
/-! rules of our own over the hand layer -/
namespace LH
open PySem PySem.Spec PyProof.Rows L2

/-! ### what a def lets out goes on outside -/
/-- a body's context, as FunD.ok makes it -/
abbrev XB (P : Program) (w : World) (K : PySem.W.Frag) (mg : Str → Option Value) (base : Heap) (N : List Str) (q : Str) (sc : Scope) (f : Addr) (cd : Value) (A : Around) (outer : List Env) (s : Shared) (H : Hp) (E : XK) : Cx :=
  cxOf (L2.CX P w) P w K mg base N q sc f cd A outer s H E
theorem passE {P : Program} {w : World} {K : PySem.W.Frag} {mg : Str → Option Value} {base : Heap} {N : List Str} {q : Str} {sc : Scope} {f : Addr} {cd : Value} {A : Around} {outer : List Env} {s : Shared} {H : Hp} {E : XK} :
    Passes (L2.CX P w) (XB P w K mg base N q sc f cd A outer s H E) E :=
  passes_call (X := XB P w K mg base N q sc f cd A outer s H E) (W := fun cls d _ H => E cls d H) (takes_of rfl rfl rfl rfl) fun _ _ _ _ h => h
theorem takesE {P : Program} {w : World} {K : PySem.W.Frag} {mg : Str → Option Value} {base : Heap} {N : List Str} {q : Str} {sc : Scope} {f : Addr} {cd : Value} {A : Around} {outer : List Env} {s : Shared} {H : Hp} {E : XK} :
    Takes (XB P w K mg base N q sc f cd A outer s H E) (fun cls d _ H => E cls d H) := takes_of rfl rfl rfl rfl
theorem passOwnE {P : Program} {w : World} {K : PySem.W.Frag} {mg : Str → Option Value} {base : Heap} {N : List Str} {q : Str} {sc : Scope} {f : Addr} {cd : Value} {A : Around} {outer : List Env} {s : Shared} {H : Hp} {E : XK} :
    PassesOwn (model P w) (XB P w K mg base N q sc f cd A outer s H E).A (XB P w K mg base N q sc f cd A outer s H E).env (XB P w K mg base N q sc f cd A outer s H E).xe := passes_of (X := XB P w K mg base N q sc f cd A outer s H E) rfl
section
variable {X : Cx} {CX : CXT} {k n : Nat} {f C : Addr} {fd : FuncData} {ps ks : List Str} {sp : Sp} {E : XK} {m : Str} {p pos apos : Pos} {e o : Expr} {es : List Expr} {kws : List Keyword} {ta : TE} {t tk : TA} {g : List Value → List Value → List Value} {gV : List V → List V → List V}
/-- o.m(e, .., k = v, ..) -/
def tMethN (C : Addr) (m : Str) (n j : Nat) (sp : Sp) (gV : List V → List V → List V) (E : XK) (ta : TE) (t tk : TA) : TE := fun σ H Q => ta σ H fun x H0 => ∃ a dx fs, x = .ref a ∧ H0 a = some (.ins C dx fs) ∧ fs.lookup m = none ∧
  t σ H0 fun vs H1 => tk σ H1 fun zs H2 => vs.length = n ∧ zs.length = j ∧ sp (gV (x :: vs) zs) H2 Q E
theorem pe_methN {pl : Sem Bool} (he : PE X o ta) (c : Cls X.K C) (hm : Meth X.K C m f) (F : FnOk X.prog X.w X.K X.mg X.base CX k f fd ps sp) (hr : Room k X.A) (hb : KBn X.K fd ps (n + 1) ks g gV) (hx : Passes CX X E) (ha : PA X (e :: es) t) (hkw : PK X kws tk)
    (hall : (backToKw pos (keywordEach kws X.env)).all (·.1.isSome) = true := by rfl) (hks : (backToKw pos (keywordEach kws X.env)).filterMap (·.1) = ks := by rfl)
    (hst : starEach (e :: es) X.env = (false, eval e X.env) :: starEach es X.env := by rfl) (hpl : ((backTo pos (starEach (e :: es) X.env)).any (·.1) || (backToKw pos (keywordEach kws X.env)).any (·.1.isNone)) = false := by rfl)
    (ht : eval (.Call (.Attribute o m apos) (e :: es) kws pos) X.env = (do
      let ov ← eval o X.env
      standAt apos.atName
      let (f, first) ← holding [ov] (getMethod ov m pl)
      callWith pos f first (backTo pos (starEach (e :: es) X.env)) (backToKw pos (keywordEach kws X.env))) := by rfl) :
    PE X (.Call (.Attribute o m apos) (e :: es) kws pos) (tMethN C m n ks.length sp gV E ta t tk) := by
  refine ⟨fun pins s σ H Q I h => ?_⟩
  refine PySem.W.methodCall_KW (pl := pl) (thn (he.run pins s σ H _ I h) fun u s0 ⟨x, H0, I0, rx, a, dx, fs, ex, ea, l, q0⟩ => ?_) ht
  subst ex
  obtain rfl : u = Value.ref a := rx
  refine getmeth_ok I0 ea c hm l ?_
  refine PySem.W.callWith_KW (first := [.ref a]) (h₀ := X.base) I0.ok.mod.kin hm.kp hall (thn (ha.run pos pins s0 σ H0 _ I0 q0) fun us s1 ⟨vs, H1, I1, r1, q1⟩ => ?_) hpl hst
  refine thn (hkw.run pos pins s1 σ H1 _ I1 q1) fun ws s2 ⟨zs, H2, I2, r2, l1, l2, q2⟩ => ⟨I2.kIn, ?_⟩
  rw [hks]
  exact run_fnN (us := .ref a :: us) (vs := V.ref a :: vs) F hr hb hx I2 (.cons rfl r1) r2 (by rw [List.length_cons, l1]) l2 q2
/-- xs[i] op= e, xs a list, i not below 0 -/
theorem pget_list : PGet X (fun x y H Q => ∃ (a : Addr) (xs : List V) (i : Nat) (v : V), x = .ref a ∧ y = .int (i : Int) ∧ SqL X.K H a xs ∧ xs[i]? = some v ∧ Q v H) := by
  intro pins s σ H o i ov iv Q I ro ri h
  obtain ⟨a, xs, j, v, rfl, rfl, hs, hv, q⟩ := h
  cases ro
  obtain ⟨t, rfl⟩ := ri
  obtain ⟨its, r, pl, hz⟩ := I.list hs
  obtain ⟨u, eu, ru⟩ := r.get hv
  have hl := r.length
  have hj := (List.getElem?_eq_some_iff.mp hv).1
  have hn := line63
  refine wpAny_getItem_list pl.isList (by omega) (by omega) (by simpa using eu) ?_
  exact ⟨v, H, I, ru, q⟩
end
end LH
end

section
set_option Elab.async false
set_option linter.all false
set_option maxRecDepth 100000
set_option maxHeartbeats 4000000
/-! sorted(xs, key=f), f a def of our own that may make tuples -/
namespace LH
open PySem PySem.Spec PyProof.Rows L2 PySem.W

/-! ### data that never change: None, truth values, numbers, texts, tuples of these -/
mutual
inductive Dt (K : PySem.W.Frag) (H : Hp) : V → PyData → Prop
  | non : Dt K H .non .none
  | bl (b : Bool) : Dt K H (.bl b) (.bool b)
  | int (i : Int) : Dt K H (.int i) (.int i)
  | str (x : Str) : Dt K H (.str x) (.str x)
  | tup {a : Addr} {xs : List V} {ds : List PyData} : SqT K H a xs → Dts K H xs ds → Dt K H (.ref a) (.tuple ds)
inductive Dts (K : PySem.W.Frag) (H : Hp) : List V → List PyData → Prop
  | nil : Dts K H [] []
  | cons {v : V} {vs : List V} {d : PyData} {ds : List PyData} : Dt K H v d → Dts K H vs ds → Dts K H (v :: vs) (d :: ds)
end
/-- tuples stay -/
def KeepT (K : PySem.W.Frag) (H H' : Hp) : Prop := ∀ a xs, SqT K H a xs → SqT K H' a xs
theorem KeepT.of {K : PySem.W.Frag} {H H' : Hp} (h : ∀ b o, H b = some o → (∀ xs, o ≠ .lst xs) → H' b = some o) : KeepT K H H' := fun a xs z => by
  rcases z with (z | ⟨o, z⟩) | z
  · exact .inl (.inl (h a _ z (fun _ q => nomatch q)))
  · exact .inl (.inr ⟨o, h a _ z (fun _ q => nomatch q)⟩)
  · exact .inr z
theorem KeepT.same {K : PySem.W.Frag} {H H' : Hp} (h : Same H H') : KeepT K H H' := KeepT.of fun b o e _ => h b o e
mutual
theorem Dt.keep {K : PySem.W.Frag} {H H' : Hp} (k : KeepT K H H') : ∀ {v : V} {d : PyData}, Dt K H v d → Dt K H' v d
  | _, _, .non => .non
  | _, _, .bl b => .bl b
  | _, _, .int i => .int i
  | _, _, .str x => .str x
  | _, _, .tup h hs => .tup (k _ _ h) (Dts.keep k hs)
theorem Dts.keep {K : PySem.W.Frag} {H H' : Hp} (k : KeepT K H H') : ∀ {vs : List V} {ds : List PyData}, Dts K H vs ds → Dts K H' vs ds
  | _, _, .nil => .nil
  | _, _, .cons h hs => .cons (Dt.keep k h) (Dts.keep k hs)
end
mutual
theorem Dt.dp {K : PySem.W.Frag} {H : Hp} : ∀ {v : V} {d : PyData}, Dt K H v d → Dp K H v d
  | _, _, .non => .non
  | _, _, .bl b => .bl b
  | _, _, .int i => .int i
  | _, _, .str x => .str x
  | _, _, .tup h hs => .tup h (Dts.dp hs)
theorem Dts.dp {K : PySem.W.Frag} {H : Hp} : ∀ {vs : List V} {ds : List PyData}, Dts K H vs ds → DpAll K H vs ds
  | _, _, .nil => .nil
  | _, _, .cons h hs => .cons (Dt.dp h) (Dts.dp hs)
end

/-! ### two calls of built-ins deeper, nothing let out -/
abbrev in2 (X : Cx) : Cx := { X with A := X.A.in1.in1, xe := fun _ _ => False }
theorem ok_in2 {X : Cx} (ok : X.Ok) : (in2 X).Ok :=
  ⟨ok.mod, ok.kind, ok.glob, ok.blt, ok.above, ok.inj, ok.has, ok.cab, ok.hd, ok.frames, ok.stk, ok.exf, ok.bs, ok.bsz, ok.noex, ok.exfs, ok.funs, ok.frf⟩
theorem ok_out2 {X : Cx} (ok : (in2 X).Ok) : X.Ok :=
  ⟨ok.mod, ok.kind, ok.glob, ok.blt, ok.above, ok.inj, ok.has, ok.cab, ok.hd, ok.frames, ok.stk, ok.exf, ok.bs, ok.bsz, ok.noex, ok.exfs, ok.funs, ok.frf⟩
section
variable {X : Cx} {pins : List (Addr × Obj)} {σ : L2.St} {H : Hp} {s : Shared}
theorem inv_in2 (I : Inv X pins σ H s) : Inv (in2 X) pins σ H s := ⟨ok_in2 I.ok, I.os, I.bare, I.base, I.loc, I.cell, I.free, I.freeC, I.pin, I.hok, I.len⟩
theorem inv_out2 (I : Inv (in2 X) pins σ H s) : Inv X pins σ H s := ⟨ok_out2 I.ok, I.os, I.bare, I.base, I.loc, I.cell, I.free, I.freeC, I.pin, I.hok, I.len⟩

/-- an untracked record of ours at a: it is no frame, no cell, no pin -/
theorem fp_drop {a : Addr} {o : Obj} (I : Inv X ((a, o) :: pins) σ H s) (f : FpOk X pins H a) : Inv X pins σ H s := I.pins_of fun p hp => I.pin p (List.mem_append_right _ (List.mem_cons_of_mem _ hp))
theorem pin_hd {a : Addr} {o : Obj} (I : Inv X ((a, o) :: pins) σ H s) : s.heap.get? a = some o := (I.pin (a, o) (List.mem_append_right _ List.mem_cons_self)).1
theorem pin_none {a : Addr} {o : Obj} (I : Inv X ((a, o) :: pins) σ H s) : H a = none := (I.pin (a, o) (List.mem_append_right _ List.mem_cons_self)).2.1
theorem pin_add {a : Addr} {o : Obj} (I : Inv X pins σ H s) (f : FpOk X pins H a) (e : s.heap.get? a = some o) (d : ∀ v, o.data ≠ .cell v) : Inv X ((a, o) :: pins) σ H s := I.pins_of fun p hp => by
  rcases List.mem_cons.mp hp with q | q
  · rw [q]
    exact ⟨e, f.1, f.2.1, f.2.2.1, d⟩
  · exact I.pin p (List.mem_append_right _ q)
/-- what is said of a record besides: it holds of any heap that doesn't track it -/
structure Rec (X : Cx) (pins : List (Addr × Obj)) (b : Addr) : Prop where
  nl : b ≠ X.env.locals
  nf : b ∉ X.fs
  new : b ∈ X.ex ∨ X.s_0.heap.objs.size ≤ b
  nc : ∀ x c, X.env.cells.lookup x = some c → c ≠ b
  np : ∀ p ∈ X.pn ++ pins, p.1 ≠ b
theorem Rec.fp {b : Addr} (r : Rec X pins b) (h : H b = none) : FpOk X pins H b := ⟨h, r.nl, r.nf, r.new, r.nc, r.np⟩
theorem Rec.of {b : Addr} (f : FpOk X pins H b) : Rec X pins b := ⟨f.2.1, f.2.2.1, f.2.2.2.1, f.2.2.2.2.1, f.2.2.2.2.2⟩
/-- the record at a is written -/
theorem rec_put {a : Addr} {o o' : Obj} {h' : Heap} {t' : Nat} (I : Inv X ((a, o) :: pins) σ H s) (r : Rec X pins a) (k : ∀ b u, b ≠ a → s.heap.get? b = some u → h'.get? b = some u) (e : h'.get? a = some o') (d : ∀ v, o'.data ≠ .cell v) :
    Inv X ((a, o') :: pins) σ H { s with heap := h', toks := t' } := by
  have n := pin_none I
  have J := fp_drop I (r.fp n)
  exact pin_add (J.turned (t' := t') (fun b u hb q => k b u hb q) n r.nl r.new r.nc r.np) (r.fp n) e d
end
section
variable {X : Cx} {pins : List (Addr × Obj)} {σ : L2.St} {H : Hp} {s : Shared}
theorem each_of {K : PySem.W.Frag} {H : Hp} {Y : Cx} (I : Inv Y pins σ H s) : ∀ {ys : List V} {us : List Value} {ds : List PyData}, Vals ys us → Dts Y.K H ys ds → EachIs (fun v d => ∃ as, Reads s.heap v d as) us ds
  | _, _, _, .nil, .nil => .nil
  | _, _, _, .cons r rs, .cons h hs => .cons (Dp.reads I _ _ _ h.dp r) (each_of (K := K) (H := H) I rs hs)
theorem Dts.len {K : PySem.W.Frag} {H : Hp} : ∀ {vs : List V} {ds : List PyData}, Dts K H vs ds → vs.length = ds.length
  | _, _, .nil => rfl
  | _, _, .cons _ t => congrArg Nat.succ (Dts.len t)
theorem dts_snoc {K : PySem.W.Frag} {H : Hp} : ∀ {ys : List V} {ds : List PyData} {y : V} {d : PyData}, Dts K H ys ds → Dt K H y d → Dts K H (ys ++ [y]) (ds ++ [d])
  | _, _, _, _, .nil, h => .cons h .nil
  | _, _, _, _, .cons a as, h => .cons a (dts_snoc as h)
theorem vals_perm {β : Type} {v : β → V} : ∀ {bs : List β} {us : List Value}, Vals (bs.map v) us → EachIs (fun (u : Value) (b : β) => RelV (v b) u) us bs
  | [], us, h => by
    rw [List.map_nil] at h
    cases h
    exact .nil
  | b :: bs, us, h => by
    rw [List.map_cons] at h
    cases h with
    | cons r rs => exact .cons r (vals_perm rs)
theorem vals_each {β : Type} {v : β → V} : ∀ {bs : List β} {us : List Value}, EachIs (fun (u : Value) (b : β) => RelV (v b) u) us bs → Vals (bs.map v) us
  | _, _, .nil => .nil
  | _, _, .cons r rs => .cons r (vals_each rs)
/-- the end: the record at a is a tracked list from now on, the one at c is let go -/
theorem rec_show {a c : Addr} {oa oc : Obj} {out : List Value} {xs : List V} {n : Nat} {h' : Heap} {t' : Nat} (I : Inv X ((c, oc) :: (a, oa) :: pins) σ H s) (ra : Rec X pins a) (rc : Rec X pins c) (hac : c ≠ a)
    (k : ∀ b u, b ≠ a → b ≠ c → s.heap.get? b = some u → h'.get? b = some u) (e : h'.get? a = some (seqObj "list" out.toArray n)) (rv : Vals xs out) (hz : xs.length ≤ sizeLine) :
    H a = none ∧ Inv X pins σ (upd H a (.lst xs)) { s with heap := h', toks := t' } := by
  have nc := pin_none I
  have I1 : Inv X ((a, oa) :: pins) σ H s := I.pins_of fun p hp => I.pin p (List.mem_append_right _ (List.mem_cons_of_mem _ hp))
  have na := pin_none I1
  have J := fp_drop I1 (ra.fp na)
  have tk : ∀ b o, H b = some o → b ≠ a ∧ b ≠ c := fun b o q => ⟨ne_of_none q na, ne_of_none q nc⟩
  refine ⟨na, J.step (g' := s.gens) (d' := s.drawn) (ch := [c, a]) (fun b hb => ?_) (fun b o _ _ hc q _ => k b o (fun z => hc (by simp [z])) (fun z => hc (by simp [z])) q) (fun b o _ _ hc q _ => ⟨o.slots, k b o (fun z => hc (by simp [z])) (fun z => hc (by simp [z])) q⟩)
    (fun b o hc _ q => by rw [upd_ne (fun z => hc (by simp [z]))]; exact q) (fun b o hc q => ⟨o, k b o (fun z => hc (by simp [z])) (fun z => hc (by simp [z])) q⟩) (fun b xs q => by rw [upd_ne (tk _ _ q).1]; exact q) (fun b o u q => by rw [upd_ne (tk _ _ q).1]; exact q)
    (fun b ps q => ⟨#[], by rw [upd_ne (tk _ _ q).1, q]; simp⟩) (fun m hm => ?_) (fun b o q => ?_) J.bare⟩
  · rcases List.mem_cons.mp hb with q | q
    · rw [q]
      exact ⟨rc.new, rc.nl, rc.nc, rc.np⟩
    · rw [List.mem_singleton.mp q]
      exact ⟨ra.new, ra.nl, ra.nc, ra.np⟩
  · obtain ⟨o, es, ep, ho, r⟩ := hm
    exact ⟨o, es, ep, k _ _ (Ne.symm ra.nl) (Ne.symm rc.nl) ho, r⟩
  · by_cases hb : b = a
    · rw [hb, upd_same] at q
      cases q
      rw [hb]
      exact ⟨hz, out, n, rv, e⟩
    · rw [upd_ne hb] at q
      refine (J.hok b o q).stay (fun d u hd z => ?_) (fun d z => by rw [upd_ne (tk _ _ z).1]; exact z) (fun d xs z => by rw [upd_ne (tk _ _ z).1]; exact z)
      rcases hd with y | y
      · rw [y] at z ⊢
        exact k b u (tk _ _ q).1 (tk _ _ q).2 z
      · exact k d u (tk _ _ y).1 (tk _ _ y).2 z
theorem same_upd {H : Hp} {p : Addr} {o : HO} (h : H p = none) : Same H (upd H p o) := fun b u e => by rw [upd_ne (ne_of_none e h)]; exact e
/-- the key is asked of an item -/
def KeyTurn (X : Cx) (σ : L2.St) (H : Hp) (pins : List (Addr × Obj)) (f : Value) (x : V) (d : PyData) : Prop := ∀ (pins1 : List (Addr × Obj)) (H1 : Hp) (s1 : Shared) (u : Value), (∀ p ∈ pins, p ∈ pins1) → Inv (in2 X) pins1 σ H1 s1 → Same H H1 → RelV x u →
  wpAny (model X.prog X.w) X.A.in1.in1 (call f [u]) (EP (in2 X) pins1 σ (fun y H2 => Same H1 H2 ∧ Dt X.K H2 y d)) (fun _ _ => False) s1
/-- the sort itself: the list at a is new and holds the items -/
theorem srt_core {β : Type} (k : β → PyData) (v : β → V) (bs : List β) {f a n : Nat} {vs : List Value} {Q : VK} {E' : Value → Shared → Prop} (I0 : Inv X pins σ H s) (ra0 : Rec X pins a) (nA : H a = none) (hoA : s.heap.get? a = some (seqObj "list" vs.toArray n)) (rv : Vals (bs.map v) vs)
    (hvl : vs.length = bs.length) (hZ : vs.length ≤ sizeLine) (hal : AllAlike (bs.map k)) (hs : Sortable (bs.map k)) (hu : ∀ b ∈ bs, X.A.units + 2 + (k b).depth < cLine)
    (turn : ∀ b ∈ bs, KeyTurn X σ H pins (.ref f) (v b) (k b)) (q : ∀ p H1, Same H H1 → H1 p = none → Q (.ref p) (upd H1 p (.lst ((bs.mergeSort (dataLe false k)).map v)))) :
    wpAny (model X.prog X.w) X.A.in1.in1 (ksk_tree a (.ref f) false) (fun r s' => r = .done (.ret .none) ∧ EP X pins σ Q (.ref a) s') E' s := by
  obtain ⟨hp, g, d, tk, os⟩ := s
  unfold ksk_tree
  refine wpAny_bind (listItems_at hoA rfl ?_)
  refine wpAny_bind (listUpdate_at hoA rfl ?_ (by rw [List.size_toArray]; exact hZ) (Nat.zero_le _))
  obtain ⟨e1, ho1⟩ : ∃ e1, (hp.update a (Obj.mapSeq fun _ => (#[] : Array Value))).get? a = some (seqObj "list" #[] e1) := ⟨_, get?_update_seq hoA fun _ => #[]⟩
  refine wpAny_bind (seqEpoch_at ho1 rfl (wpAny_bind (wpAny_newTuple ?_ (by show vs.length ≤ _; exact hZ))))
  refine wpAny_bind (wpAny_newList ?_ (Nat.zero_le _))
  refine wpAny_holding ?_
  -- the two records: the list that is sorted, the keys
  have k1 : ∀ b u, b ≠ a → hp.get? b = some u → (hp.update a (Obj.mapSeq fun _ => (#[] : Array Value))).get? b = some u := fun b u hb e => ((Heap.SameBut.update hp a (Obj.mapSeq fun _ => (#[] : Array Value))).2 b hb).trans e
  generalize eh2 : hp.update a (Obj.mapSeq fun _ => (#[] : Array Value)) = h2 at ho1 k1 ⊢
  have I1 : Inv X ((a, seqObj "list" vs.toArray n) :: pins) σ H ⟨hp, g, d, tk, os⟩ := pin_add I0 (ra0.fp nA) hoA (fun _ z => nomatch z)
  have I2 : Inv X ((a, seqObj "list" #[] e1) :: pins) σ H ⟨h2, g, d, tk, os⟩ := rec_put (t' := tk) I1 ra0 k1 ho1 (fun _ z => nomatch z)
  have I3 : Inv X ((a, seqObj "list" #[] e1) :: pins) σ H ⟨h2.push (seqObj "tuple" vs.toArray 0), g, d, tk, os⟩ := I2.kept (t' := tk) fun b o e => Heap.get?_push_of_some _ e
  have rS0 : Rec X ((a, seqObj "list" #[] e1) :: pins) (h2.push (seqObj "tuple" vs.toArray 0)).objs.size := Rec.of (I3.fpOk (H' := H) (Nat.le_refl _) (I3.hok.fresh (Nat.le_refl _)))
  have I4 : Inv X (((h2.push (seqObj "tuple" vs.toArray 0)).objs.size, seqObj "list" #[] 0) :: (a, seqObj "list" #[] e1) :: pins) σ H ⟨(h2.push (seqObj "tuple" vs.toArray 0)).push (seqObj "list" #[] 0), g, d, tk, os⟩ :=
    ClX.pin_new (t' := tk) I3 (fun b o e => Heap.get?_push_of_some _ e) (Nat.le_refl _) (Heap.get?_push_size _ rfl) (fun _ z => nomatch z)
  show wpAny _ _ (ksk_rest a (.ref f) false vs.toArray e1 (.ref (h2.push (seqObj "tuple" vs.toArray 0)).objs.size)) _ E' ⟨(h2.push (seqObj "tuple" vs.toArray 0)).push (seqObj "list" #[] 0), g, d, tk, os⟩
  generalize eS : (h2.push (seqObj "tuple" vs.toArray 0)).objs.size = c at rS0 I4 ⊢
  generalize (h2.push (seqObj "tuple" vs.toArray 0)).push (seqObj "list" #[] 0) = h4 at I4 ⊢
  have hca : c ≠ a := fun z => rS0.np (a, seqObj "list" #[] e1) (List.mem_append_right _ List.mem_cons_self) z.symm
  have rS : Rec X pins c := ⟨rS0.nl, rS0.nf, rS0.new, rS0.nc, fun p hp => rS0.np p ((List.mem_append.mp hp).elim (fun z => List.mem_append_left _ z) fun z => List.mem_append_right _ (List.mem_cons_of_mem _ z))⟩
  have hA : a ≠ X.env.locals := ra0.nl
  unfold ksk_rest
  refine wpAny_bind (wpAny_rule ?_)
  rw [← Array.forIn_toList]
  simp only [List.toList_toArray]
  refine wpAny_bind (ksk_fold (fun i s' => ∃ (H1 : Hp) (kA : Array Value) (e : Nat) (ys : List V), Inv X ((c, seqObj "list" kA e) :: (a, seqObj "list" #[] e1) :: pins) σ H1 s' ∧ Same H H1 ∧ Vals ys kA.toList ∧ Dts X.K H1 ys ((bs.map k).take i)) vs 0 _
    ⟨H, #[], 0, [], I4, Same.refl _, .nil, by rw [List.take_zero]; exact .nil⟩ ?step ?done)
  case step =>
    rintro j x s' hx ⟨H1, kA, e, ys, J, hS, rk, hk⟩
    simp only [Nat.zero_add] at hk ⊢
    have hj : j < bs.length := by rw [← hvl]; exact (List.getElem?_eq_some_iff.mp hx).1
    obtain ⟨u', hu', ru⟩ := Vals.get (i := j) (x := v bs[j]) rv (by rw [List.getElem?_map, List.getElem?_eq_getElem hj]; rfl)
    obtain rfl : u' = x := Option.some.inj (hu'.symm.trans hx)
    have hzk : kA.size ≤ vs.length := by
      have l1 := hk.len
      have l2 := rk.length
      rw [List.length_take] at l1
      have l3 : kA.toList.length = kA.size := Array.length_toList
      omega
    refine wpAny_bind (wpAny_attempt (wpAny_mono (turn bs[j] (List.getElem_mem hj) _ H1 s' u' (fun p hp => List.mem_cons_of_mem _ (List.mem_cons_of_mem _ hp)) (inv_in2 J) hS ru) (fun w' s2 he => ?_) fun _ _ z => z.elim))
    obtain ⟨y, H2, J2', ry, hS2, hy⟩ := he
    have J2 := inv_out2 J2'
    try dsimp only
    have nk := pin_hd J2
    obtain ⟨c2, hc2⟩ : ∃ c2, (s2.heap.update c (Obj.mapSeq (·.push w'))).get? c = some (seqObj "list" (kA.push w') c2) := ⟨_, get?_update_seq nk (·.push w')⟩
    refine wpAny_bind (listUpdate_at nk rfl ?_ (Nat.le_trans hzk hZ) (Nat.le_trans (Nat.le_of_eq (Array.size_push ..)) (Nat.succ_le_succ (Nat.le_trans hzk hZ))))
    have rS' : Rec X ((a, seqObj "list" #[] e1) :: pins) c := rS0
    refine wpAny_pure ⟨rfl, H2, kA.push w', c2, ys ++ [y], rec_put (t' := s2.toks) J2 rS' (fun b u hb z => ((Heap.SameBut.update s2.heap c (Obj.mapSeq (·.push w'))).2 b hb).trans z) hc2 (fun _ z => nomatch z), hS.trans hS2, ?_, ?_⟩
    · rw [Array.toList_push]
      exact rk.append (.cons ry .nil)
    · rw [List.take_add_one, List.getElem?_map, List.getElem?_eq_getElem hj]
      exact dts_snoc (hk.keep (KeepT.same hS2)) hy
  case done =>
    rintro s' ⟨H1, kA, e, ys, J, hS, rk, hk⟩
    simp only [Nat.zero_add] at hk
    rw [List.take_of_length_le (by rw [List.length_map, hvl]; exact Nat.le_refl _)] at hk
    have hsz : kA.size = vs.length := by
      have l1 := hk.len
      have l2 := rk.length
      rw [List.length_map] at l1
      have l3 : kA.toList.length = kA.size := Array.length_toList
      omega
    have nk := pin_hd J
    have J1 : Inv X ((a, seqObj "list" #[] e1) :: pins) σ H1 s' := J.pins_of fun p hp => J.pin p (List.mem_append_right _ (List.mem_cons_of_mem _ hp))
    have na := pin_hd J1
    try dsimp only
    refine wpAny_bind (listItems_at nk rfl ?_)
    obtain ⟨G, g1, g2⟩ := restrict s'.heap fun b => decide (b ≠ c)
    have gk : ∀ b, b ≠ c → G.get? b = s'.heap.get? b := fun b hb => g1 b (decide_eq_true hb)
    have ge : G.get? c = none := g2 c (by simp)
    have hEach := each_of (K := X.K) (H := H1) J rk hk
    refine keyH_end (κ := dataKind s'.heap (bs.map k)) (h₁ := G) (fun b o hb z => by
        by_cases hbc : b = c
        · rw [hbc, ge] at z
          cases z
        · exact (gk b hbc).symm.trans z) ge nk na hca (SortsAt.data (A := X.A.in1.in1) (s := s') hEach hal hs (fun d hd => ?_)) hsz hZ fun h3 tk3 c3 kp3 n3 => ⟨rfl, ?_⟩
    · obtain ⟨b, hb, rfl⟩ := List.mem_map.mp hd
      exact hu b hb
    · have hOut : EachIs (fun (u : Value) (b : β) => RelV (v b) u) (sortVals (dataKind s'.heap (bs.map k)) false kA.toList vs) (bs.mergeSort (dataLe false k)) :=
        keyedOut_each k ⟨s'.heap, kA.toList, hal, rfl, hEach⟩ (vals_perm rv)
      have rOut := vals_each hOut
      have hol : ((bs.mergeSort (dataLe false k)).map v).length ≤ sizeLine := by
        rw [List.length_map, (List.mergeSort_perm _ _).length_eq, ← hvl]
        exact hZ
      obtain ⟨nA1, fin⟩ := rec_show (t' := tk3) J ra0 rS hca (fun b u h1 h2 z => kp3 b u h1 ((gk b h2).trans z)) n3 rOut hol
      exact ⟨.ref a, _, fin, rfl, q a H1 hS nA1⟩
/-- the list that sorted makes is sorted, whatever was collected -/
theorem srt_shell {f r : Addr} {vs : List Value} {Q : Value → Shared → Prop} {A : Around} {E : Value → Shared → Prop} {P : Program} {w : World} (hZ : vs.length ≤ sizeLine)
    (hcol : ∀ {R : List Value → Shared → Prop} {E' : Value → Shared → Prop}, (∀ (h' : Heap) (tk : Nat), (∀ b o, s.heap.get? b = some o → h'.get? b = some o) → R vs { s with heap := h', toks := tk }) → wpAny (model P w) A.in1 (collect (.ref r)) R E' s)
    (h : ∀ (h' : Heap) (tk : Nat) (E' : Value → Shared → Prop), (∀ b o, s.heap.get? b = some o → h'.get? b = some o) → wpAny (model P w) A.in1.in1 (ksk_tree h'.objs.size (.ref f) false) (fun z s' => z = .done (.ret .none) ∧ Q (.ref h'.objs.size) s') E' { s with heap := h'.push (seqObj "list" vs.toArray 0), toks := tk }) :
    wpAny (model P w) A (call (.builtin "sorted") [.ref r] [(Str.ofString "key", .ref f)]) Q E s := by
  refine call_function_entry_kw kind_sorted plain_sorted entry_sorted (ksk_s1 _ _) ?_
  unfold Builtin.«sorted»
  refine wpAny_bind (m := checkCount "sorted" 1 1 _) (wpAny_pure (wpAny_bind (hcol fun h' tk kp => wpAny_bind (wpAny_newList ?_ hZ))))
  refine wpAny_bind (wpAny_holding (wpAny_call_entry_kw slot_list_sort ⟨_, Heap.get?_push_size _ rfl, rfl⟩ entry_list_sort ?body (ksk_l1 _ _)))
  case body =>
    rw [ksk_t1]
    refine wpAny_mono (h h' tk _ kp) (fun z s' hz => ?_) fun _ _ e => e
    obtain ⟨rfl, hq⟩ := hz
    exact ⟨_, rfl, wpAny_pure ⟨_, rfl, hq⟩⟩
/-- .. with what the layer knows -/
theorem srt_any {β : Type} (k : β → PyData) (v : β → V) (bs : List β) {r f : Addr} {vs : List Value} {Q : VK} (I : Inv X pins σ H s) (rv : Vals (bs.map v) vs) (hz : (bs.map v).length ≤ sizeLine)
    (hcol : ∀ {R : List Value → Shared → Prop} {E' : Value → Shared → Prop}, (∀ (h' : Heap) (tk : Nat), (∀ b o, s.heap.get? b = some o → h'.get? b = some o) → R vs { s with heap := h', toks := tk }) → wpAny (model X.prog X.w) X.A.in1 (collect (.ref r)) R E' s)
    (hal : AllAlike (bs.map k)) (hs : Sortable (bs.map k)) (hu : ∀ b ∈ bs, X.A.units + 2 + (k b).depth < cLine)
    (turn : ∀ b ∈ bs, KeyTurn X σ H pins (.ref f) (v b) (k b)) (q : ∀ p H1, Same H H1 → H1 p = none → Q (.ref p) (upd H1 p (.lst ((bs.mergeSort (dataLe false k)).map v)))) :
    wpAny (model X.prog X.w) X.A (call (.builtin "sorted") [.ref r] [(Str.ofString "key", .ref f)]) (EP X pins σ Q) X.xe s := by
  have hvl : vs.length = bs.length := by rw [← rv.length, List.length_map]
  have hZ : vs.length ≤ sizeLine := by rw [← rv.length]; exact hz
  refine srt_shell hZ hcol fun h' tk E' kp => ?_
  have I1 : Inv X pins σ H { s with heap := h', toks := tk } := I.kept kp
  have nA : H h'.objs.size = none := I1.hok.fresh (Nat.le_refl _)
  have ra : Rec X pins h'.objs.size := Rec.of (I1.fpOk (H' := H) (Nat.le_refl _) nA)
  exact srt_core k v bs (s := { s with heap := h'.push (seqObj "list" vs.toArray 0), toks := tk }) (I1.kept (t' := tk) fun b o e => Heap.get?_push_of_some _ e) ra nA (Heap.get?_push_size _ rfl) rv hvl hZ hal hs hu turn q
/-- sorted(l, key=f) -/
theorem srt_key {β : Type} (k : β → PyData) (v : β → V) (bs : List β) {l f : Addr} {Q : VK} (I : Inv X pins σ H s) (hl : SqL X.K H l (bs.map v)) (hal : AllAlike (bs.map k)) (hs : Sortable (bs.map k)) (hu : ∀ b ∈ bs, X.A.units + 2 + (k b).depth < cLine)
    (turn : ∀ b ∈ bs, KeyTurn X σ H pins (.ref f) (v b) (k b)) (q : ∀ p H1, Same H H1 → H1 p = none → Q (.ref p) (upd H1 p (.lst ((bs.mergeSort (dataLe false k)).map v)))) :
    wpAny (model X.prog X.w) X.A (call (.builtin "sorted") [.ref l] [(Str.ofString "key", .ref f)]) (EP X pins σ Q) X.xe s := by
  obtain ⟨vs, rv, pl, hz⟩ := I.list hl
  refine srt_any k v bs I rv hz (fun {R E'} h => collect_list pl.isList ?_ (by rw [← rv.length]; exact hz)) hal hs hu turn q
  refine h _ _ fun b o e => ?_
  rw [Heap.get?_update_ne _ _ _ _ (Nat.ne_of_lt (Heap.lt_size e))]
  exact Heap.get?_push_of_some _ e
/-- sorted(v, key=f), v a dict's values -/
theorem srt_vals {β : Type} (k : β → PyData) (v : β → V) (bs : List β) {r d f : Addr} {kvs : List (Key × V)} {Q : VK} (hc : X.calm = true) (I : Inv X pins σ H s) (hd : H d = some (.dK kvs)) (hv : s.heap.IsValuesView r d) (hb : kvs.map (·.2) = bs.map v) (hal : AllAlike (bs.map k)) (hs : Sortable (bs.map k))
    (hu : ∀ b ∈ bs, X.A.units + 2 + (k b).depth < cLine) (turn : ∀ b ∈ bs, KeyTurn X σ H pins (.ref f) (v b) (k b)) (q : ∀ p H1, Same H H1 → H1 p = none → Q (.ref p) (upd H1 p (.lst ((bs.mergeSort (dataLe false k)).map v)))) :
    wpAny (model X.prog X.w) X.A (call (.builtin "sorted") [.ref r] [(Str.ofString "key", .ref f)]) (EP X pins σ Q) X.xe s := by
  obtain ⟨z, lo, vs, rel, dd⟩ := dk_rd I.hok (Rd.of hd)
  obtain ⟨ep, hat⟩ := dd.dictAt
  have hrel : Vals (bs.map v) (vs.map (·.2)) := by
    rw [← hb]
    clear hat dd z hb hd
    induction rel with
    | nil => exact .nil
    | cons r _ ih => exact .cons r.2 ih
  have hl : (vs.map (·.2)).length = vs.length := List.length_map ..
  have hz2 : vs.length ≤ sizeLine := by rw [← Paired.length rel]; exact z
  refine srt_any k v bs I hrel (by rw [hrel.length, hl]; exact hz2) (fun {R E'} h => PySem.W.kdu_collect (A := X.A.in1) (PySem.W.kdl_values (knd := mixKind X.prog X.w) (r := r) (d := d) (kvs := vs) (ep := ep)) (I.ok.hd hc) ⟨hv, hat⟩ hz2 fun h' tk acc hk hacc => ?_) hal hs hu turn q
  have e : acc.toList = vs.map (·.2) := kdl_vals_eq acc.toList (by rw [Array.length_toList]; exact hacc.1) fun j u hj => hacc.2 j u (by rw [← Array.getElem?_toList]; exact hj)
  rw [e]
  exact h h' tk hk
end
end LH
end

section
set_option Elab.async false
set_option linter.all false
set_option maxRecDepth 100000
set_option maxHeartbeats 4000000
/-! sorted(e, key=lambda a: body) -/
namespace LH
open PySem PySem.Spec PyProof.Rows L2 PySem.W LamX

/-- the lambda's names: its one parameter, captured ones, globals -/
structure Lam1 (sc scope : Scope) (a : Str) : Prop where
  kind : scope.kind = .function
  co : scope.isCoroutine = false
  gen : scope.isGenerator = false
  par : scope.names.lookup a = some .local
  own : ∀ y ∈ scope.names, y.2 ≠ .cell ∧ (y.2 = .local → y.1 = a)
  free : ∀ y ∈ scope.names, y.2 = .free → sc.names.lookup y.1 = some .cell ∨ sc.names.lookup y.1 = some .free
def lam1B (sc scope : Scope) (a : Str) : Bool :=
  decide (scope.kind = .function) && !scope.isCoroutine && !scope.isGenerator && decide (scope.names.lookup a = some .local) && (scope.names.all fun y => !decide (y.2 = .cell) && (!decide (y.2 = .local) || decide (y.1 = a)) &&
    (!decide (y.2 = .free) || (decide (sc.names.lookup y.1 = some .cell) || decide (sc.names.lookup y.1 = some .free))))
theorem lam1_by {sc scope : Scope} {a : Str} (h : lam1B sc scope a = true) : Lam1 sc scope a := by
  unfold lam1B at h
  simp only [Bool.and_eq_true, Bool.or_eq_true, Bool.not_eq_true', decide_eq_true_eq, decide_eq_false_iff_not, List.all_eq_true] at h
  obtain ⟨⟨⟨⟨h1, h2⟩, h3⟩, h5⟩, h4⟩ := h
  refine ⟨h1, h2, h3, h5, fun y hy => ⟨(h4 y hy).1.1, fun e => ?_⟩, fun y hy e => ?_⟩
  · rcases (h4 y hy).1.2 with z | z
    · exact absurd e z
    · exact z
  · rcases (h4 y hy).2 with z | z
    · exact absurd e z
    · exact z
theorem Lam1.has {X : Cx} {scope : Scope} {a : Str} (L : Lam1 X.env.scope scope a) (ok : X.Ok) : ∀ y ∈ scope.names, y.2 = .free → ∃ c, X.env.cells.lookup y.1 = some c := fun y hy e => by
  rcases L.free y hy e with z | z
  · exact ok.has _ (Or.inl z)
  · exact ok.has _ (Or.inr z)
section
variable {X : Cx} {pins : List (Addr × Obj)} {σ : L2.St} {H HZ : Hp} {s s1 : Shared}
theorem clo_cell {scope : Scope} {a : Str} (L : Lam1 X.env.scope scope a) (ok : X.Ok) {y : Str} {c : Addr} (e : (cloFrom X.env.cells scope.names []).lookup y = some c) : X.env.cells.lookup y = some c := by
  rcases cloFrom_mem (PySem.mem_of_lookup e) with q | ⟨h1, h2⟩
  · exact nomatch q
  · obtain ⟨d, hd⟩ := L.has ok _ h1 rfl
    have hd : X.env.cells.lookup y = some d := hd
    rw [h2, hd]
    rfl
theorem clo_has {scope : Scope} {y : Str} (hl : scope.names.lookup y = some .free) : ∃ c, (cloFrom X.env.cells scope.names []).lookup y = some c :=
  mem_lookup (cloFrom_has (cells := X.env.cells) (acc := []) (PySem.mem_of_lookup hl : (y, NameKind.free) ∈ scope.names))
/-- the body's frame stands, its parameter in slot i -/
theorem lam_in {A : Around} {outer : List Env} {E : XK} {scope : Scope} {a : Str} {i : Nat} {x : V} {u : Value} {f c' : Addr} {h₁ : Heap} {tk : Nat} (I : Inv X pins σ H s) (hN : X.N.Nodup) (L : Lam1 X.env.scope scope a) (hi : X.N[i]? = some a) (rx : RelV x u)
    (e0 : Env0 X.prog X.w X.K X.mg X.base A outer s1 HZ) (hd : A.handled = none) (un : Un (frs X.stack) [] H HZ s.heap s1.heap) (hns : h₁.Ns s1.heap.objs.size fun y => ([(a, u)] : List (Str × Value)).reverse.lookup y)
    (kp : ∀ b o, s1.heap.get? b = some o → h₁.get? b = some o) : Inv (lamCx X A outer s1 HZ E scope f c') [] (σ.set i (some x)) HZ { s1 with heap := h₁, toks := tk } := by
  have cm := fun {y c} e => clo_cell (X := X) L I.ok (y := y) (c := c) e
  have stay : ∀ {c : Addr} {z : Option Value}, H c = none → s.heap.IsCell c z → h₁.IsCell c z := fun {c z} n q => by
    obtain ⟨o, ho, q⟩ := q
    obtain ⟨sl, y⟩ := un.any ho n (by simp)
    exact ⟨_, kp _ _ y, q⟩
  have nil : ∀ b : Addr, ¬ b ∈ (lamCx X A outer s1 HZ E scope f c').ex := fun b z => nomatch (show b ∈ ([] : List Addr) from z)
  have ok' : (lamCx X A outer s1 HZ E scope f c').Ok := {
    mod := e0.mod
    kind := L.kind
    glob := rfl
    blt := rfl
    above := Nat.le_refl _
    inj := fun y z c e1 e2 => I.ok.inj y z c (cm e1) (cm e2)
    has := fun y hy => by
      rcases (show scope.names.lookup y = some .cell ∨ scope.names.lookup y = some .free from hy) with q | q
      · exact absurd rfl (L.own _ (PySem.mem_of_lookup q)).1
      · exact clo_has q
    cab := fun y c z _ => nomatch (show false = true from z)
    hd := fun _ => hd
    frames := Around.frames_deeper e0.frames
    stk := .inr ⟨rfl, rfl⟩
    exf := fun b z => absurd z (nil b)
    bs := e0.bs
    bsz := e0.bsz
    noex := fun b _ _ => nil b
    exfs := fun b z => absurd z (nil b)
    funs := e0.funs
    frf := e0.frf }
  obtain ⟨m, hn, hl⟩ := I.loc
  refine ⟨ok', rfl, e0.bare, Un.kept kp, ⟨_, hns, fun j y z e1 e2 e3 => ?_⟩, fun y c e => ?_, e0.hok.fresh (Nat.le_refl _), fun y c e => ?_, fun q hq => absurd (show q ∈ ([] : List (Addr × Obj)) ++ [] from hq) (by simp), e0.hok.kept kp, by rw [List.length_set]; exact I.len⟩
  · have e1 : X.N[j]? = some y := e1
    rcases (show Vis scope y from e3) with q | q | q
    · have ya : y = a := (L.own _ (PySem.mem_of_lookup q)).2 rfl
      have ij : j = i := nodup_ix hN e1 (by rw [ya]; exact hi)
      have hlt : i < σ.length := by
        rw [I.len]
        exact (List.getElem?_eq_some_iff.mp hi).1
      rw [ij, List.getElem?_set_self hlt] at e2
      have exz : x = z := Option.some.inj (Option.some.inj e2)
      refine ⟨u, by rw [← exz]; exact rx, .inl ⟨q, ?_⟩⟩
      rw [ya]
      simp [List.lookup]
    · exact absurd rfl (L.own _ (PySem.mem_of_lookup q)).1
    · have ji : i ≠ j := fun z => by
        rw [← z, hi] at e1
        rw [← Option.some.inj e1, L.par] at q
        cases q
      rw [List.getElem?_set_ne ji] at e2
      obtain ⟨w', r, l⟩ := hl j y z e1 e2 ((L.free _ (PySem.mem_of_lookup q) rfl).elim (fun k => .inr (.inl k)) fun k => .inr (.inr k))
      obtain ⟨c2, h2⟩ := clo_has (X := X) q
      refine ⟨w', r, .inr ⟨.inr q, c2, h2, ?_⟩⟩
      have c1 := cm h2
      rcases l with ⟨k', _⟩ | ⟨_, c3, e', t⟩
      · have k' : X.env.scope.names.lookup y = some .local := k'
        rcases L.free _ (PySem.mem_of_lookup q) rfl with k2 | k2
        · rw [show X.env.scope.names.lookup y = _ from k2] at k'
          cases k'
        · rw [show X.env.scope.names.lookup y = _ from k2] at k'
          cases k'
      · rw [c1] at e'
        cases e'
        exact stay (I.freeC y _ c1) t
  · obtain ⟨w', z⟩ := I.cell y c (cm e)
    exact ⟨w', stay (I.freeC y c (cm e)) z⟩
  · obtain ⟨z, o, ho, _⟩ := I.cell y c (cm e)
    exact un.free c o ho (I.freeC y c (cm e)) (by simp)
theorem Room.twice {k : Nat} {A : Around} (r : Room (k + 2) A) : Room k A.in1.in1 := Room.in1 (Room.in1 r)
/-- the lambda's object, as it is made -/
abbrev lamO (X : Cx) (params : Arguments) (body : Expr) (scope : Scope) (pm ctv : Value) (c' : Addr) : Obj := PySem.W.kla_obj "<lambda>" (X.env.qual ++ "<lambda>") params body scope (cloFrom X.env.cells scope.names []) pm c' ctv
/-- the lambda asked of an item, two built-ins deep -/
theorem lam_turn {params : Arguments} {body : Expr} {scope : Scope} {pm ctv : Value} {f c' : Addr} {a : Str} {i k : Nat} {x : V} {u : Value} {tb : TE} {Q : VK} (I : Inv (in2 X) pins σ H s) (hN : X.N.Nodup) (L : Lam1 X.env.scope scope a) (hi : X.N[i]? = some a)
    (hf : s.heap.get? f = some (lamO X params body scope pm ctv c')) (hco : H c' = some (CodeO c' (X.env.qual ++ "<lambda>"))) (hr : Room (k + 3) X.A) (rx : RelV x u)
    (hbind : bindArgs (PySem.W.kla_fn "<lambda>" (X.env.qual ++ "<lambda>") params body scope (cloFrom X.env.cells scope.names []) pm (.ref c') ctv) ⟨[u], []⟩ = pure [(a, u)])
    (hbody : ∀ (A : Around) (outer : List Env) (s : Shared) (H : Hp), Room k (A.deeper (lamEnv X scope s.heap.objs.size f c')) → PE (lamCx X A outer s H (fun _ _ _ => False) scope f c') body tb) (ht : tb (σ.set i (some x)) H Q) :
    wpAny (model X.prog X.w) X.A.in1.in1 (call (.ref f) [u]) (EP (in2 X) pins σ Q) (fun _ _ => False) s := by
  have J := inv_out2 I
  obtain ⟨⟨oc, vs, t, hoc, hdc, hvc⟩, _, _⟩ := I.hok c' _ hco
  have hr1 : Room (k + 1) X.A.in1.in1 := Room.twice (k := k + 1) hr
  have rc : codeAny (model X.prog X.w) X.A.in1.in1 (.call (.ref f) ⟨[u], []⟩) (CR (L2.CX X.prog X.w) X.stack X.prog X.w H s Q fun _ _ _ => False) s := by
    refine PySem.W.kla_callFunE hr1.depth hf rfl L.co L.gen rfl ⟨c', oc, vs, t, rfl, hoc, hdc, hvc⟩ ?_
    rw [hbind]
    refine wpAny_pure (wpAny_newFunctionEnv (fun y hy => (L.own y hy).1) (fun y hy => by rw [List.mem_singleton.mp hy]; exact L.par) (fun h₁ hns hsb => ⟨I.nolimit.fresh _ hsb, ?_⟩) L.kind)
    show codeAny _ _ (.expr body (lamEnv X scope s.heap.objs.size f c')) _ _
    have kp : ∀ b o, s.heap.get? b = some o → h₁.get? b = some o := fun b o e => hsb.extBut b o (Nat.ne_of_lt (Heap.lt_size e)) (Heap.get?_push_of_some _ e)
    have B := lam_in (tk := s.toks + ([(a, u)] : List (Str × Value)).length) (A := X.A.in1.in1) (outer := X.stack) (E := fun _ _ _ => False) (f := f) (c' := c') J hN L hi rx (s1 := s) (HZ := H) J.env0.in1.in1 hr1.hd Un.refl hns kp
    refine PySem.W.kla_codeExpr (wpAny_mono ((hbody _ _ s H (hr1.deeper _)).run [] _ _ H Q B ht) (fun v s' hq => ?_) fun e s' hq => hq)
    obtain ⟨w', H', J', rv, q⟩ := hq
    exact ⟨w', H', J'.os, J'.bare, J'.base, J'.hok, rv, q⟩
  refine wpAny_call (codeAny_mono rc fun r s' hq => ?_)
  cases r with
  | error e =>
    obtain ⟨_, _, _, _, _, _, _, _, _, _, _, _, z⟩ := hq
    exact z.elim
  | ok fl =>
    cases fl with
    | ret w' =>
      obtain ⟨v, H', I', rv, q⟩ := J.after hq
      exact ⟨v, H', inv_in2 I', rv, q⟩
    | next => exact hq.elim
    | brk => exact hq.elim
    | cont => exact hq.elim
/-- a wish for one value -/
def one (q : V → Hp → Prop) : List V → Hp → Prop
  | [x], H => q x H
  | _, _ => False
theorem one_of {q : V → Hp → Prop} {vs : List V} {H : Hp} (h : one q vs H) : ∃ x, vs = [x] ∧ q x H := by
  match vs, h with
  | [x], h => exact ⟨x, rfl, h⟩
/-- what is asked of a sort by a lambda, behind what is sorted: tables T, slot i the parameter's, tb the body's reading -/
def SrtAsk (K : PySem.W.Frag) (T : List (Addr × Str)) (i : Nat) (tb : TE) (β : Type) (k : β → PyData) (v : β → V) (bs : List β) (σ : L2.St) (H : Hp) (Q : VK) : Prop :=
  AllAlike (bs.map k) ∧ Sortable (bs.map k) ∧ (∀ b ∈ bs, (k b).depth ≤ 32) ∧ Tabs T H ∧ ∀ H2, ExtN H H2 → Tabs T H2 →
    (∀ b ∈ bs, ∀ H3, Same H2 H3 → tb (σ.set i (some (v b))) H3 fun y H4 => Same H3 H4 ∧ Dt K H4 y (k b)) ∧ ∀ p H3, Same H2 H3 → H3 p = none → Q (.ref p) (upd H3 p (.lst ((bs.mergeSort (dataLe false k)).map v)))
def tSortL (K : PySem.W.Frag) (T : List (Addr × Str)) (i : Nat) (te tb : TE) : TE := fun σ H Q => te σ H fun x H1 => ∃ (l : Addr) (β : Type) (k : β → PyData) (v : β → V) (bs : List β), x = .ref l ∧ SqL K H1 l (bs.map v) ∧ SrtAsk K T i tb β k v bs σ H1 Q
def tSortV (K : PySem.W.Frag) (T : List (Addr × Str)) (i : Nat) (te tb : TE) : TE := fun σ H Q => te σ H fun x H1 => ∃ (d : Addr) (kvs : List (Key × V)) (β : Type) (k : β → PyData) (v : β → V) (bs : List β), x = .ref d ∧ H1 d = some (.dK kvs) ∧ kvs.map (·.2) = bs.map v ∧ SrtAsk K T i tb β k v bs σ H1 Q
theorem _root_.L2.SqL.extN {K : PySem.W.Frag} {H H' : Hp} {a : Addr} {xs : List V} (e : ExtN H H') (h : SqL K H a xs) : SqL K H' a xs := by
  rcases h with (h | ⟨o, h⟩) | h
  · exact .inl (.inl (e _ _ h fun _ z => nomatch z))
  · exact .inl (.inr ⟨o, e _ _ h fun _ z => nomatch z⟩)
  · exact .inr h
/-- the lambda is made, the sort goes by it -/
theorem srt_lam {T : List (Addr × Str)} {c P : Addr} {params : Arguments} {body : Expr} {scope : Scope} {lpos : Pos} {a : Str} {i kk : Nat} {tb : TE} {β : Type} {k : β → PyData} {v : β → V} {bs : List β} {Q : VK} {Z : Value → Shared → Prop} (I : Inv X pins σ H s) (hN : X.N.Nodup) (hi : X.N[i]? = some a)
    (TB : TabB X.base X.mg c P) (hcode : X.env.code = .ref c) (hmT : (P, X.env.qual ++ "<lambda>") ∈ T) (hu : ∀ p ∈ T, p.1 = P → p.2 = X.env.qual ++ "<lambda>") (hr : Room (kk + 3) X.A) (L : Lam1 X.env.scope scope a) (hdef : defaultsOf params X.env = ([], []))
    (hbind : ∀ (q : Str) (cl : List (Str × Addr)) (pm cv ctv u : Value), bindArgs (PySem.W.kla_fn "<lambda>" q params body scope cl pm cv ctv) ⟨[u], []⟩ = pure [(a, u)])
    (hbody : ∀ (A : Around) (outer : List Env) (s : Shared) (H : Hp) (f c' : Addr), Room kk (A.deeper (lamEnv X scope s.heap.objs.size f c')) → PE (lamCx X A outer s H (fun _ _ _ => False) scope f c') body tb)
    (ask : SrtAsk X.K T i tb β k v bs σ H Q)
    (go : ∀ (f : Addr) (fo : Obj) (H1 : Hp) (s' : Shared), Inv X ((f, fo) :: pins) σ H1 s' → ExtN H H1 → (∀ b ∈ bs, X.A.units + 2 + (k b).depth < cLine) → (∀ b ∈ bs, KeyTurn X σ H1 ((f, fo) :: pins) (.ref f) (v b) (k b)) →
      (∀ p H3, Same H1 H3 → H3 p = none → Q (.ref p) (upd H3 p (.lst ((bs.mergeSort (dataLe false k)).map v)))) → Z (.ref f) s') : wpAny (model X.prog X.w) X.A (eval (.Lambda params body scope lpos) X.env) Z X.xe s := by
  obtain ⟨h1, h2, h3, h4, h5⟩ := ask
  refine lam_make2 I TB hcode hmT hu h4 hdef (L.has I.ok) fun f c' pm ctv H1 s' I1 eN T1 hf hfn hfr hco => ?_
  obtain ⟨hb, hq⟩ := h5 H1 eN T1
  have hst : ∀ b ∈ frs X.stack, f ≠ b := fun b hb z => hfr (by rw [z]; exact hb)
  have nl : f ≠ X.env.locals ∧ f ∉ X.fs := by
    rcases I1.ok.stk with e | ⟨e, hfl⟩
    · refine ⟨fun z => ?_, fun z => hfr (by rw [e]; exact z)⟩
      obtain ⟨m, ⟨o, es, ep, ho, hd, _⟩, _⟩ := I1.loc
      rw [← z, hf] at ho
      rw [← Option.some.inj ho] at hd
      cases hd
    · refine ⟨fun z => hst X.env.locals ?_ z, fun z => hfr ?_⟩
      · rw [e]
        exact List.mem_filterMap.mpr ⟨X.env, List.mem_cons_self, hfl⟩
      · rw [e]
        obtain ⟨y, hy, q⟩ := List.mem_filterMap.mp z
        exact List.mem_filterMap.mpr ⟨y, List.mem_cons_of_mem _ hy, q⟩
  have I2 : Inv X ((f, lamO X params body scope pm ctv c') :: pins) σ H1 s' := I1.pins_of fun p hp => by
    rcases List.mem_cons.mp hp with z | z
    · rw [z]
      exact ⟨hf, hfn, nl.1, nl.2, fun w z => nomatch z⟩
    · exact I1.pin p (List.mem_append_right _ z)
  refine go f _ H1 s' I2 eN (fun b hbm => ?_) (fun b hbm pins1 H2 s1 u hp J hS ru => ?_) hq
  · have := hr.units
    have := h3 b hbm
    omega
  · have hfp := (J.pin (f, lamO X params body scope pm ctv c') (List.mem_append_right _ (hp _ List.mem_cons_self))).1
    exact lam_turn J hN L hi hfp (hS _ _ hco) hr ru (hbind _ _ _ _ _ _) (fun A outer s H hr2 => hbody A outer s H f c' hr2) (hb b hbm H2 hS)
theorem ep_unpin {p : Addr × Obj} {Q : VK} {u : Value} {s' : Shared} (h : EP X (p :: pins) σ Q u s') : EP X pins σ Q u s' :=
  let ⟨v, H', J, r, q⟩ := h
  ⟨v, H', J.pins_of fun y hy => J.pin y (List.mem_append_right _ (List.mem_cons_of_mem _ hy)), r, q⟩
/-- sorted(e, key=lambda a: body), e a list -/
theorem pe_sortL {T : List (Addr × Str)} {c P : Addr} {e : Expr} {te : TE} {params : Arguments} {body : Expr} {scope : Scope} {p pos kpos lpos : Pos} {a : Str} {i kk : Nat} {tb : TE} (hg : Gl X "sorted") (hm : X.mg "sorted" = none) (ha : PA X [e] (tCons te tNil)) (hN : X.N.Nodup) (hi : X.N[i]? = some a)
    (TB : TabB X.base X.mg c P) (hcode : X.env.code = .ref c) (hmT : (P, X.env.qual ++ "<lambda>") ∈ T) (hu : ∀ p ∈ T, p.1 = P → p.2 = X.env.qual ++ "<lambda>") (hr : Room (kk + 3) X.A) (L : Lam1 X.env.scope scope a) (hdef : defaultsOf params X.env = ([], []))
    (hbind : ∀ (q : Str) (cl : List (Str × Addr)) (pm cv ctv u : Value), bindArgs (PySem.W.kla_fn "<lambda>" q params body scope cl pm cv ctv) ⟨[u], []⟩ = pure [(a, u)])
    (hbody : ∀ (A : Around) (outer : List Env) (s : Shared) (H : Hp) (f c' : Addr), Room kk (A.deeper (lamEnv X scope s.heap.objs.size f c')) → PE (lamCx X A outer s H (fun _ _ _ => False) scope f c') body tb)
    (hst : backTo pos (starEach [e] X.env) = (false, eval e X.env) :: backTo pos (starEach [] X.env) := by rfl) :
    PE X (.Call (.Name "sorted" p) [e] [⟨some "key", .Lambda params body scope lpos, kpos⟩] pos) (tSortL X.K T i te tb) := by
  refine ⟨fun pins s σ H Q I h => ?_⟩
  refine wpAny_Call_Name_kw (ld_blt I hg hm PyProof.Rows.boot_sorted ?_)
  refine PyProof.Rows.callWith_kw (thn (ha.run pos pins s σ H (one fun x H1 => ∃ (l : Addr) (β : Type) (k : β → PyData) (v : β → V) (bs : List β), x = .ref l ∧ SqL X.K H1 l (bs.map v) ∧ SrtAsk X.K T i tb β k v bs σ H1 Q) I h) fun us s1 hq => ?_) hst (by rw [hst]; rfl) rfl rfl
  obtain ⟨vs, H1, I1, r1, q1⟩ := hq
  obtain ⟨x, rfl, l, β, k, v, bs, rfl, hl, ask⟩ := one_of q1
  obtain ⟨u, rfl, ru⟩ := vals1 r1
  obtain rfl : u = Value.ref l := ru
  refine wpAny_evalAll_cons (wpAny_bind (srt_lam I1 hN hi TB hcode hmT hu hr L hdef hbind hbody ask fun f fo H2 s2 I2 eN hd turn q2 => wpAny_bind (wpAny_standAt (wpAny_pure (wpAny_evalAll_nil ?_)))))
  exact thn (srt_key k v bs I2 (L2.SqL.extN eN hl) ask.1 ask.2.1 hd turn q2) fun _ _ y => ep_unpin y
/-- sorted(e.values(), key=lambda a: body), e a dict -/
theorem pe_sortV {T : List (Addr × Str)} {c P : Addr} {e : Expr} {te : TE} {params : Arguments} {body : Expr} {scope : Scope} {p pos kpos lpos apos cpos : Pos} {a : Str} {i kk : Nat} {tb : TE} (hcalm : X.calm = true) (hg : Gl X "sorted") (hm : X.mg "sorted" = none) (he : PE X e te) (hN : X.N.Nodup) (hi : X.N[i]? = some a)
    (TB : TabB X.base X.mg c P) (hcode : X.env.code = .ref c) (hmT : (P, X.env.qual ++ "<lambda>") ∈ T) (hu : ∀ p ∈ T, p.1 = P → p.2 = X.env.qual ++ "<lambda>") (hr : Room (kk + 3) X.A) (L : Lam1 X.env.scope scope a) (hdef : defaultsOf params X.env = ([], []))
    (hbind : ∀ (q : Str) (cl : List (Str × Addr)) (pm cv ctv u : Value), bindArgs (PySem.W.kla_fn "<lambda>" q params body scope cl pm cv ctv) ⟨[u], []⟩ = pure [(a, u)])
    (hbody : ∀ (A : Around) (outer : List Env) (s : Shared) (H : Hp) (f c' : Addr), Room kk (A.deeper (lamEnv X scope s.heap.objs.size f c')) → PE (lamCx X A outer s H (fun _ _ _ => False) scope f c') body tb)
    (hbase : attributeBase e "values" X.env (eval e X.env) = eval e X.env := by rfl) (hline : (apos.endLine == cpos.line) = true := by rfl)
    (hst : backTo pos (starEach [.Call (.Attribute e "values" apos) [] [] cpos] X.env) = (false, eval (.Call (.Attribute e "values" apos) [] [] cpos) X.env) :: backTo pos (starEach [] X.env) := by rfl) :
    PE X (.Call (.Name "sorted" p) [.Call (.Attribute e "values" apos) [] [] cpos] [⟨some "key", .Lambda params body scope lpos, kpos⟩] pos) (tSortV X.K T i te tb) := by
  refine ⟨fun pins s σ H Q I h => ?_⟩
  refine wpAny_Call_Name_kw (ld_blt I hg hm PyProof.Rows.boot_sorted ?_)
  refine PyProof.Rows.callWith_kw ?_ hst rfl rfl rfl
  show wpAny _ _ (spliced ((false, eval (.Call (.Attribute e "values" apos) [] [] cpos) X.env) :: backTo pos (starEach [] X.env))) _ _ s
  refine Calls.spliced_cons (wpAny_Call_method (T := "dict") (id := "dict.values") hbase rfl hline F.plainAttrs_dict F.slot_dict_values F.type_dict_values (thn (he.run pins s σ H _ I h) fun u s1 hq => ?_))
  obtain ⟨x, H1, I1, rx, d, kvs, β, k, v, bs, rfl, hd, hkv, ask⟩ := hq
  obtain rfl : u = Value.ref d := rx
  obtain ⟨z, lo, vs, rel, dd⟩ := dk_rd I1.hok (Rd.of hd)
  have I2 : Inv X ((s1.heap.objs.size, { cls := .type "dict_values", data := .fields #[.ref d] }) :: pins) σ H1 { s1 with heap := s1.heap.push { cls := .type "dict_values", data := .fields #[.ref d] } } :=
    ClX.pin_new (t' := s1.toks) I1 (fun b o q => Heap.get?_push_of_some _ q) (Nat.le_refl _) (Heap.get?_push_size _ rfl) fun _ q => nomatch q
  refine ⟨dd.typeIs, dd.mapOf.noDict, ?_⟩
  refine method_meetsIn F.slot_dict_values F.entry_dict_values rfl (PySem.evalArgs_none ⟨rfl, dd.typeIs, F.args_dict_values_1 _, _, meets_dict_values (mixKind X.prog X.w) d lo, ⟨vs, dd⟩, ?_⟩)
  refine Calls.spliced_nil ?_
  refine wpAny_evalAll_cons (wpAny_bind (srt_lam I2 hN hi TB hcode hmT hu hr L hdef hbind hbody ask fun f fo H2 s2 I3 eN hd2 turn q2 => wpAny_bind (wpAny_standAt (wpAny_pure (wpAny_evalAll_nil ?_)))))
  have hv : s2.heap.IsValuesView s1.heap.objs.size d := ⟨_, (I3.pin (s1.heap.objs.size, { cls := .type "dict_values", data := .fields #[.ref d] }) (List.mem_append_right _ (List.mem_cons_of_mem _ List.mem_cons_self))).1, rfl, rfl⟩
  exact thn (srt_vals k v bs hcalm I3 (eN _ _ hd fun _ z => nomatch z) hv hkv ask.1 ask.2.1 hd2 turn q2) fun _ _ y => ep_unpin (ep_unpin y)
end
end LH
end

section
set_option Elab.async false
set_option linter.all false
set_option maxRecDepth 100000
set_option maxHeartbeats 4000000
/-! sorted of data; of a dict's items -/
namespace LH
open PySem PySem.Spec PyProof.Rows L2 PySem.W
section
variable {X : Cx} {pins : List (Addr × Obj)} {σ : L2.St} {H : Hp} {s : Shared}
/-- the collected values are data -/
def DatV (K : PySem.W.Frag) (H : Hp) {β : Type} (v : β → V) (enc : β → PyData) (bs : List β) : Prop := ∀ b ∈ bs, Dt K H (v b) (enc b)
theorem each_dat {β : Type} {v : β → V} {enc : β → PyData} (I : Inv X pins σ H s) : ∀ {bs : List β} {us : List Value}, EachIs (fun (u : Value) (b : β) => RelV (v b) u) us bs → DatV X.K H v enc bs → EachIs (fun u b => ∃ as, Reads s.heap u (enc b) as) us bs
  | _, _, .nil, _ => .nil
  | b :: bs, _, .cons r rs, h => .cons (Dp.reads I _ _ _ (h b List.mem_cons_self).dp r) (each_dat I rs fun c hc => h c (List.mem_cons_of_mem _ hc))
/-- the sort without a key, of a new list at the heap's end -/
theorem srt_plain {β : Type} (v : β → V) (enc : β → PyData) (bs : List β) {vs : List Value} {Q : VK} {E' : Value → Shared → Prop} (I : Inv X pins σ H s) (rv : Vals (bs.map v) vs) (hZ : vs.length ≤ sizeLine) (hd : DatV X.K H v enc bs) (hal : AllAlike (bs.map enc)) (hs : Sortable (bs.map enc)) (hu : ∀ b ∈ bs, X.A.units + 2 + (enc b).depth < cLine)
    (q : ∀ p, H p = none → Q (.ref p) (upd H p (.lst ((bs.mergeSort (dataLe false enc)).map v)))) :
    wpAny (model X.prog X.w) X.A.in1.in1 (Builtin.«list.sort» ⟨[.ref s.heap.objs.size], []⟩) (fun z s' => z = .done (.ret .none) ∧ EP X pins σ Q (.ref s.heap.objs.size) s') E' { s with heap := s.heap.push (seqObj "list" vs.toArray 0) } := by
  have nA : H s.heap.objs.size = none := I.hok.fresh (Nat.le_refl _)
  have ho : (s.heap.push (seqObj "list" vs.toArray 0)).get? s.heap.objs.size = some (seqObj "list" vs.toArray 0) := Heap.get?_push_size _ rfl
  have k1 : ∀ b o, s.heap.get? b = some o → (sortingHeap (s.heap.push (seqObj "list" vs.toArray 0)) s.heap.objs.size vs).get? b = some o := fun b o e => sortingHeap_old (Nat.ne_of_lt (Heap.lt_size e)) (Heap.get?_push_of_some _ e)
  have I1 : Inv X pins σ H { s with heap := sortingHeap (s.heap.push (seqObj "list" vs.toArray 0)) s.heap.objs.size vs } := I.kept (t' := s.toks) k1
  have e0 := vals_perm rv
  have er := each_dat I1 e0 hd
  have er0 : EachIs (fun u b => ∃ as, Reads (sortingHeap (s.heap.push (seqObj "list" vs.toArray 0)) s.heap.objs.size vs) u (enc b) as) vs bs := er
  refine list_sort_vals ho (SortsAt.data (s := { s with heap := sortingHeap (s.heap.push (seqObj "list" vs.toArray 0)) s.heap.objs.size vs }) (each_map (R := fun u d => ∃ as, Reads (sortingHeap (s.heap.push (seqObj "list" vs.toArray 0)) s.heap.objs.size vs) u d as) enc er0) hal hs fun d hd => ?_) hZ ⟨rfl, ?_⟩
  · obtain ⟨b, hb, rfl⟩ := List.mem_map.mp hd
    exact hu b hb
  · have eo := sortVals_data false e0 er0 hal
    have hol : ((bs.mergeSort (dataLe false enc)).map v).length ≤ sizeLine := by
      rw [List.length_map, (List.mergeSort_perm _ _).length_eq, ← List.length_map (f := v), rv.length]
      exact hZ
    obtain ⟨c, hc⟩ := sortedHeap_at (out := (sortVals (dataKind (sortingHeap (s.heap.push (seqObj "list" vs.toArray 0)) s.heap.objs.size vs) (bs.map enc)) false vs vs).toArray) ho
    refine ⟨.ref _, upd H s.heap.objs.size (.lst ((bs.mergeSort (dataLe false enc)).map v)), I.laid (t' := s.toks) (fun b o e => ?_) (Nat.le_refl _) ⟨hol, _, c, vals_each eo, hc⟩, rfl, q _ nA⟩
    have hb : b ≠ s.heap.objs.size := Nat.ne_of_lt (Heap.lt_size e)
    have z := k1 b o e
    unfold sortedHeap
    rw [Heap.get?_update_ne _ _ _ _ hb]
    exact z
/-- sorted of a list of data -/
def rSortD (K : PySem.W.Frag) : List V → Hp → VK → Prop := fun xs H Q => ∃ (l : Addr) (β : Type) (v : β → V) (enc : β → PyData) (bs : List β), xs = [.ref l] ∧ SqL K H l (bs.map v) ∧ DatV K H v enc bs ∧ AllAlike (bs.map enc) ∧ Sortable (bs.map enc) ∧ (∀ b ∈ bs, (enc b).depth ≤ 32) ∧
  ∀ p, H p = none → Q (.ref p) (upd H p (.lst ((bs.mergeSort (dataLe false enc)).map v)))
theorem cr_sortD {k : Nat} (hr : Room k X.A) : CallR X (.builtin "sorted") (rSortD X.K) := by
  intro pins s σ H xs us Q I r h
  obtain ⟨l, β, v, enc, bs, rfl, hl, hd, hal, hs, hdp, q⟩ := h
  obtain rfl := Vals.ref1 r
  obtain ⟨vs, rv, pl, hz⟩ := I.list hl
  have hZ : vs.length ≤ sizeLine := by rw [← rv.length]; exact hz
  have e0 := vals_perm rv
  refine sorted_data (R := fun (u : Value) (b : β) => RelV (v b) u) (enc := enc) (bs := bs) pl.isList e0 (each_dat I e0 hd) hal hs (by rw [← e0.length]; exact hZ) (fun b hb => ?_) fun out ho eo => ?_
  · have := hr.units
    have := hdp b hb
    omega
  · have hol : ((bs.mergeSort (dataLe false enc)).map v).length ≤ sizeLine := by
      rw [List.length_map, (List.mergeSort_perm _ _).length_eq, ← e0.length]
      exact hZ
    obtain ⟨c, hc⟩ := sortedAll_at s.heap vs (List.toArray out)
    exact ⟨.ref _, upd H (s.heap.objs.size + 1) (.lst ((bs.mergeSort (dataLe false enc)).map v)), I.laid (t' := s.toks) (fun _ _ => sortedAll_old) (Nat.le_succ _) ⟨hol, _, c, vals_each eo, hc⟩, rfl, q _ (I.hok.fresh (Nat.le_succ _))⟩
/-- sorted(e.items()) -/
def tSortI (K : PySem.W.Frag) (te : TE) : TE := fun σ H Q => te σ H fun x H1 => ∃ (d : Addr) (kvs : List (Key × V)) (enc : Key × V → PyData × PyData), x = .ref d ∧ H1 d = some (.dK kvs) ∧ (∀ p ∈ kvs, Dt K H1 (kV p.1) (enc p).1 ∧ Dt K H1 p.2 (enc p).2) ∧
  AllAlike (kvs.map fun p => .tuple [(enc p).1, (enc p).2]) ∧ (∀ p ∈ kvs, (PyData.tuple [(enc p).1, (enc p).2]).depth ≤ 32) ∧
  ∀ H2 p zs, Same H1 H2 → H1 p = none → H2 p = some (.lst zs) → Dts K H2 zs ((kvs.mergeSort (dataLe false fun p => .tuple [(enc p).1, (enc p).2])).map fun p => .tuple [(enc p).1, (enc p).2]) → Q (.ref p) H2
theorem dts_of {K : PySem.W.Frag} {H : Hp} {β : Type} {v : β → V} {enc : β → PyData} : ∀ {bs : List β}, (∀ b ∈ bs, Dt K H (v b) (enc b)) → Dts K H (bs.map v) (bs.map enc)
  | [], _ => .nil
  | b :: bs, h => .cons (h b List.mem_cons_self) (dts_of fun c hc => h c (List.mem_cons_of_mem _ hc))
theorem pe_sortI {e : Expr} {te : TE} {p pos apos cpos : Pos} {kr : Nat} (hr : Room kr X.A) (hcalm : X.calm = true) (hg : Gl X "sorted") (hm : X.mg "sorted" = none) (he : PE X e te)
    (hbase : attributeBase e "items" X.env (eval e X.env) = eval e X.env := by rfl) (hline : (apos.endLine == cpos.line) = true := by rfl)
    (hst : starEach [.Call (.Attribute e "items" apos) [] [] cpos] X.env = (false, eval (.Call (.Attribute e "items" apos) [] [] cpos) X.env) :: starEach [] X.env := by rfl) (hpl : (backTo pos (starEach [] X.env)).any (·.1) = false := by rfl) :
    PE X (.Call (.Name "sorted" p) [.Call (.Attribute e "items" apos) [] [] cpos] [] pos) (tSortI X.K te) := by
  refine ⟨fun pins s σ H Q I h => ?_⟩
  refine wpAny_Call_Name_kw (ld_blt I hg hm PyProof.Rows.boot_sorted (PyProof.Rows.callWith_builtin1 ?_ hst hpl))
  rw [hst]
  show wpAny _ _ (spliced ((false, eval (.Call (.Attribute e "items" apos) [] [] cpos) X.env) :: backTo pos (starEach [] X.env))) _ _ s
  refine Calls.spliced_cons (wpAny_Call_method (T := "dict") (id := "dict.items") hbase rfl hline F.plainAttrs_dict F.slot_dict_items F.type_dict_items (thn (he.run pins s σ H _ I h) fun u s1 hq => ?_))
  obtain ⟨x, H1, I1, rx, d, kvs, enc, rfl, hd, hdat, hal, hdp, q⟩ := hq
  obtain rfl : u = Value.ref d := rx
  obtain ⟨z, lo, vs, rel, dd⟩ := dk_rd I1.hok (Rd.of hd)
  obtain ⟨ep, hat⟩ := dd.dictAt
  have I2 : Inv X pins σ H1 { s1 with heap := s1.heap.push { cls := .type "dict_items", data := .fields #[.ref d] } } := I1.kept (t' := s1.toks) fun b ob y => Heap.get?_push_of_some _ y
  refine ⟨dd.typeIs, dd.mapOf.noDict, ?_⟩
  refine method_meetsIn F.slot_dict_items F.entry_dict_items rfl (PySem.evalArgs_none ⟨rfl, dd.typeIs, F.args_dict_items_1 _, _, meets_dict_items (mixKind X.prog X.w) d lo, ⟨vs, dd⟩, ?_⟩)
  refine Calls.spliced_nil ?_
  have lk : kvs.length = vs.length := Paired.length rel
  refine Calls.call_function_entry kind_sorted plain_sorted entry_sorted (args_sorted1 _) ?_
  unfold Builtin.«sorted»
  refine wpAny_bind (m := checkCount "sorted" 1 1 _) (wpAny_pure (wpAny_bind ?_))
  refine kdx_collect (A := X.A.in1) (knd := mixKind X.prog X.w) (kvs := vs) (ep := ep) (I1.ok.hd hcalm) ⟨_, Heap.get?_push_size _ rfl, rfl, rfl⟩ (hat.push _) (by omega) fun h' tk as hk hl hG => ?_
  refine wpAny_bind (wpAny_newList ?_ (by rw [List.length_map]; omega))
  -- the pairs are tracked
  have nd : as.Nodup := List.Pairwise.imp (fun {a b} (h : a < b) => Nat.ne_of_lt h) hG.rise
  have new : ∀ t ∈ as, H1 t = none := fun t ht => I2.hok.fresh (Nat.le_of_lt (hG.above t ht))
  have atP := LiI.putT_at as kvs H1 (by omega) nd
  have sm : Same H1 (LiI.putT H1 as kvs) := fun b u y => by
    rw [LiI.putT_off as kvs _ (fun m => by rw [new b m] at y; cases y)]
    exact y
  have J : Inv X pins σ (LiI.putT H1 as kvs) ⟨h', s1.gens, s1.drawn, tk, s1.os⟩ := by
    refine I2.call' (ch := []) rfl ⟨fun b o y _ _ _ => hk b o y, fun b o y _ _ _ => ⟨o.slots, hk b o y⟩, fun b o y n _ => ?_, fun b o y _ => ⟨o, hk b o y⟩, fun b xs y => sm b _ y, fun b o u y => sm b _ y, fun b ps y => ⟨#[], by rw [sm b _ y]; simp⟩⟩ (fun b u y => ?_) I2.bare fun b m => by simp at m
    · rw [LiI.putT_off as kvs _ fun m => absurd (Heap.lt_size y) (Nat.not_lt.mpr (Nat.le_of_lt (hG.above b m)))]
      exact n
    · by_cases hb : b ∈ as
      · obtain ⟨j, pk, e1, e2, e3⟩ := LiI.paired_ix atP hb
        rw [e3] at y
        cases y
        obtain ⟨key, k, x, f1, f2, f3⟩ := hG.pairs j b e1
        obtain ⟨qv, g1, g2, g3⟩ := LiI.paired_get rel e2
        rw [f1] at g1
        cases g1
        have rk : RelV (kV pk.1) key := by
          rw [g2]
          exact relV_key (show keyIs k key = true from f2)
        exact ⟨by show 2 ≤ sizeLine; decide, [key, x], .cons rk (.cons g3 .nil), ⟨_, f3, rfl, _, rfl⟩⟩
      · rw [LiI.putT_off as kvs _ hb] at y
        exact (I2.hok b u y).stay (fun d v _ m => hk d v m) (fun d m => sm d _ m) fun d xs m => sm d _ m
  have key : ∀ (as : List Addr) (kvs : List (Key × V)) (G : Hp), Paired (fun (t : Addr) (p : Key × V) => G t = some (.tup [kV p.1, p.2])) as kvs → ∃ ps : List (Addr × (Key × V)), ps.map (·.1) = as ∧ ps.map (·.2) = kvs ∧ ∀ r ∈ ps, G r.1 = some (.tup [kV r.2.1, r.2.2]) := by
    intro as kvs G h
    induction h with
    | nil => exact ⟨[], rfl, rfl, fun r m => nomatch m⟩
    | @cons a b l₁ l₂ h0 _ ih =>
      obtain ⟨ps, e1, e2, e3⟩ := ih
      refine ⟨(a, b) :: ps, by rw [List.map_cons, e1], by rw [List.map_cons, e2], fun r m => ?_⟩
      rcases List.mem_cons.mp m with y | y
      · rw [y]
        exact h0
      · exact e3 r y
  obtain ⟨ps, e1, e2, e3⟩ := key as kvs _ atP
  have dat : DatV X.K (LiI.putT H1 as kvs) (fun r : Addr × (Key × V) => V.ref r.1) (fun r => .tuple [(enc r.2).1, (enc r.2).2]) ps := fun r m => by
    have m2 : r.2 ∈ kvs := by
      rw [← e2]
      exact List.mem_map.mpr ⟨r, m, rfl⟩
    obtain ⟨d1, d2⟩ := hdat r.2 m2
    exact .tup (SqT.of (e3 r m)) (.cons (d1.keep (KeepT.same sm)) (.cons (d2.keep (KeepT.same sm)) .nil))
  have em : ps.map (fun r => PyData.tuple [(enc r.2).1, (enc r.2).2]) = kvs.map fun p => PyData.tuple [(enc p).1, (enc p).2] := by
    rw [← e2, List.map_map]
    rfl
  have rv : Vals (ps.map fun r => V.ref r.1) (as.map Value.ref) := by
    have z := LiI.vals_refs as
    rw [← e1, List.map_map] at z
    rw [← e1]
    exact z
  refine wpAny_bind (wpAny_holding (wpAny_call_entry slot_list_sort ⟨_, Heap.get?_push_size _ rfl, rfl⟩ entry_list_sort ?body (args_list_sort _)))
  case body =>
    have fin := srt_plain (s := ⟨h', s1.gens, s1.drawn, tk, s1.os⟩) (Q := Q) (E' := X.xe) (fun r : Addr × (Key × V) => V.ref r.1) (fun r => .tuple [(enc r.2).1, (enc r.2).2]) ps J rv (by rw [List.length_map]; omega) dat (by rw [em]; exact hal) (.inl fun d hd => ?_) (fun b hb => ?_) fun p hp => ?_
    · refine wpAny_mono fin (fun z s' hz => ?_) fun _ _ y => y
      obtain ⟨rfl, hq⟩ := hz
      exact ⟨_, rfl, wpAny_pure ⟨_, rfl, hq⟩⟩
    · obtain ⟨r, _, rfl⟩ := List.mem_map.mp hd
      exact ⟨_, _, rfl⟩
    · have m2 : b.2 ∈ kvs := by
        rw [← e2]
        exact List.mem_map.mpr ⟨b, hb, rfl⟩
      have := hr.units
      have := hdp b.2 m2
      omega
    · have es : (ps.mergeSort (dataLe false fun r => PyData.tuple [(enc r.2).1, (enc r.2).2])).map (fun r => PyData.tuple [(enc r.2).1, (enc r.2).2]) = (kvs.mergeSort (dataLe false fun p => .tuple [(enc p).1, (enc p).2])).map fun p => .tuple [(enc p).1, (enc p).2] := by
        have z := List.map_mergeSort (r := dataLe false fun r : Addr × (Key × V) => PyData.tuple [(enc r.2).1, (enc r.2).2]) (s := dataLe false fun p : Key × V => PyData.tuple [(enc p).1, (enc p).2]) (f := fun r : Addr × (Key × V) => r.2) (l := ps) (fun a _ b _ => rfl)
        rw [← e2, ← z, List.map_map]
        rfl
      refine q _ p _ (sm.trans (same_upd hp)) ((sm.free hp)) upd_same ?_
      rw [← es]
      exact dts_of fun r m => (dat r ((List.mergeSort_perm _ _).mem_iff.mp m)).keep (KeepT.same (same_upd hp))
end
end LH
end

section
set_option Elab.async false
set_option linter.all false
set_option maxRecDepth 100000
set_option maxHeartbeats 4000000
/-! a house in the heap -/
namespace LH
open PySem PySem.Spec PyProof.Rows L2
/-! ### what stands in a house, with the places of its objects -/
structure JobS where
  rank : Int
  til : Int
  steps : List Str
  needs : List Nat
  most : Int
  fin : Nat
  tries : Nat
  share : Int
  ended : Option Str
  held : Option Nat
  free : Int
structure JobG extends JobS where
  a : Addr
  dx : Addr
  t : Addr
  n : Addr
structure LeaseS where
  num : Nat
  work : Nat
  step : Nat
  worker : Str
  til : Int
structure LeaseG extends LeaseS where
  a : Addr
  dx : Addr
structure ClockS where
  rank : Int
  steps : List Str
  tries : Int
  coming : Int
  every : Int
  left : Int
structure ClockG extends ClockS where
  a : Addr
  dx : Addr
  t : Addr
structure RowS where
  kind : Str
  most : Int
  rate : Int
  cnt : Int
  ticks : List Int
structure RowG extends RowS where
  a : Addr
  tk : Addr
structure StaffG where
  name : Str
  kinds : List Str
  t : Addr
structure HG where
  p : Addr
  dx : Addr
  lim : Addr
  ldx : Addr
  rd : Addr
  jl : Addr
  cd : Addr
  sd : Addr
  cl : Addr
  el : Addr
  here : Int
  hold : Int
  pause : Int
  hands : Int
  age : Int
  rows : List RowG
  jobs : List JobG
  given : Nat
  cnt : List LeaseG
  staff : List StaffG
  clks : List ClockG
  log : List (V × PyData)
def optS : Option Str → V
  | none => .non
  | some x => .str x
def optN : Option Nat → V
  | none => .non
  | some n => .int n
def jobFs (g : JobG) : List (Str × V) := [("rank", .int g.rank), ("until", .int g.til), ("steps", .ref g.t), ("needed", .ref g.n), ("most", .int g.most), ("done_steps", .int g.fin), ("tries", .int g.tries), ("share", .int g.share), ("ended", optS g.ended), ("held", optN g.held), ("free_at", .int g.free)]
def leaseFs (g : LeaseG) : List (Str × V) := [("number", .int g.num), ("work", .int g.work), ("step", .int g.step), ("worker", .str g.worker), ("until", .int g.til)]
def clockFs (g : ClockG) : List (Str × V) := [("rank", .int g.rank), ("steps", .ref g.t), ("tries", .int g.tries), ("coming", .int g.coming), ("every", .int g.every), ("left", .int g.left)]
def houseFs (G : HG) : List (Str × V) := [("here", .int G.here), ("hold", .int G.hold), ("pause", .int G.pause), ("hands", .int G.hands), ("age", .int G.age), ("limits", .ref G.lim), ("jobs", .ref G.jl), ("given", .int G.given), ("counting", .ref G.cd), ("staff", .ref G.sd), ("clocks", .ref G.cl), ("entries", .ref G.el)]
theorem job_rank (g : JobG) : (jobFs g).lookup ("rank" : Str) = some (V.int g.rank) := by kernel_rfl
theorem job_until (g : JobG) : (jobFs g).lookup ("until" : Str) = some (V.int g.til) := by kernel_rfl
theorem job_steps (g : JobG) : (jobFs g).lookup ("steps" : Str) = some (V.ref g.t) := by kernel_rfl
theorem job_needed (g : JobG) : (jobFs g).lookup ("needed" : Str) = some (V.ref g.n) := by kernel_rfl
theorem job_most (g : JobG) : (jobFs g).lookup ("most" : Str) = some (V.int g.most) := by kernel_rfl
theorem job_done_steps (g : JobG) : (jobFs g).lookup ("done_steps" : Str) = some (V.int (g.fin : Nat)) := by kernel_rfl
theorem job_tries (g : JobG) : (jobFs g).lookup ("tries" : Str) = some (V.int (g.tries : Nat)) := by kernel_rfl
theorem job_share (g : JobG) : (jobFs g).lookup ("share" : Str) = some (V.int g.share) := by kernel_rfl
theorem job_ended (g : JobG) : (jobFs g).lookup ("ended" : Str) = some (optS g.ended) := by kernel_rfl
theorem job_held (g : JobG) : (jobFs g).lookup ("held" : Str) = some (optN g.held) := by kernel_rfl
theorem job_free_at (g : JobG) : (jobFs g).lookup ("free_at" : Str) = some (V.int g.free) := by kernel_rfl
theorem job_put_until (g : JobG) (z : Int) : putF ("until" : Str) (V.int z) (jobFs g) = jobFs { g with til := z } := by kernel_rfl
theorem job_put_done_steps (g : JobG) (z : Nat) : putF ("done_steps" : Str) (V.int (z : Nat)) (jobFs g) = jobFs { g with fin := z } := by kernel_rfl
theorem job_put_tries (g : JobG) (z : Nat) : putF ("tries" : Str) (V.int (z : Nat)) (jobFs g) = jobFs { g with tries := z } := by kernel_rfl
theorem job_put_share (g : JobG) (z : Int) : putF ("share" : Str) (V.int z) (jobFs g) = jobFs { g with share := z } := by kernel_rfl
theorem job_put_ended (g : JobG) (z : Option Str) : putF ("ended" : Str) (optS z) (jobFs g) = jobFs { g with ended := z } := by kernel_rfl
theorem job_put_held (g : JobG) (z : Option Nat) : putF ("held" : Str) (optN z) (jobFs g) = jobFs { g with held := z } := by kernel_rfl
theorem job_put_free_at (g : JobG) (z : Int) : putF ("free_at" : Str) (V.int z) (jobFs g) = jobFs { g with free := z } := by kernel_rfl
theorem lease_number (g : LeaseG) : (leaseFs g).lookup ("number" : Str) = some (V.int (g.num : Nat)) := by kernel_rfl
theorem lease_work (g : LeaseG) : (leaseFs g).lookup ("work" : Str) = some (V.int (g.work : Nat)) := by kernel_rfl
theorem lease_step (g : LeaseG) : (leaseFs g).lookup ("step" : Str) = some (V.int (g.step : Nat)) := by kernel_rfl
theorem lease_worker (g : LeaseG) : (leaseFs g).lookup ("worker" : Str) = some (V.str g.worker) := by kernel_rfl
theorem lease_until (g : LeaseG) : (leaseFs g).lookup ("until" : Str) = some (V.int g.til) := by kernel_rfl
theorem lease_put_until (g : LeaseG) (z : Int) : putF ("until" : Str) (V.int z) (leaseFs g) = leaseFs { g with til := z } := by kernel_rfl
theorem clock_rank (g : ClockG) : (clockFs g).lookup ("rank" : Str) = some (V.int g.rank) := by kernel_rfl
theorem clock_steps (g : ClockG) : (clockFs g).lookup ("steps" : Str) = some (V.ref g.t) := by kernel_rfl
theorem clock_tries (g : ClockG) : (clockFs g).lookup ("tries" : Str) = some (V.int g.tries) := by kernel_rfl
theorem clock_coming (g : ClockG) : (clockFs g).lookup ("coming" : Str) = some (V.int g.coming) := by kernel_rfl
theorem clock_every (g : ClockG) : (clockFs g).lookup ("every" : Str) = some (V.int g.every) := by kernel_rfl
theorem clock_left (g : ClockG) : (clockFs g).lookup ("left" : Str) = some (V.int g.left) := by kernel_rfl
theorem clock_put_coming (g : ClockG) (z : Int) : putF ("coming" : Str) (V.int z) (clockFs g) = clockFs { g with coming := z } := by kernel_rfl
theorem clock_put_left (g : ClockG) (z : Int) : putF ("left" : Str) (V.int z) (clockFs g) = clockFs { g with left := z } := by kernel_rfl
theorem house_here (g : HG) : (houseFs g).lookup ("here" : Str) = some (V.int g.here) := by kernel_rfl
theorem house_hold (g : HG) : (houseFs g).lookup ("hold" : Str) = some (V.int g.hold) := by kernel_rfl
theorem house_pause (g : HG) : (houseFs g).lookup ("pause" : Str) = some (V.int g.pause) := by kernel_rfl
theorem house_hands (g : HG) : (houseFs g).lookup ("hands" : Str) = some (V.int g.hands) := by kernel_rfl
theorem house_age (g : HG) : (houseFs g).lookup ("age" : Str) = some (V.int g.age) := by kernel_rfl
theorem house_limits (g : HG) : (houseFs g).lookup ("limits" : Str) = some (V.ref g.lim) := by kernel_rfl
theorem house_jobs (g : HG) : (houseFs g).lookup ("jobs" : Str) = some (V.ref g.jl) := by kernel_rfl
theorem house_given (g : HG) : (houseFs g).lookup ("given" : Str) = some (V.int (g.given : Nat)) := by kernel_rfl
theorem house_counting (g : HG) : (houseFs g).lookup ("counting" : Str) = some (V.ref g.cd) := by kernel_rfl
theorem house_staff (g : HG) : (houseFs g).lookup ("staff" : Str) = some (V.ref g.sd) := by kernel_rfl
theorem house_clocks (g : HG) : (houseFs g).lookup ("clocks" : Str) = some (V.ref g.cl) := by kernel_rfl
theorem house_entries (g : HG) : (houseFs g).lookup ("entries" : Str) = some (V.ref g.el) := by kernel_rfl
theorem house_put_here (g : HG) (z : Int) : putF ("here" : Str) (V.int z) (houseFs g) = houseFs { g with here := z } := by kernel_rfl
theorem house_put_given (g : HG) (z : Nat) : putF ("given" : Str) (V.int (z : Nat)) (houseFs g) = houseFs { g with given := z } := by kernel_rfl
/-! ### the classes -/
abbrev cH (K : PySem.W.Frag) : Addr := He.ga K "House"
abbrev cJ (K : PySem.W.Frag) : Addr := He.ga K "Job"
abbrev cE (K : PySem.W.Frag) : Addr := He.ga K "Lease"
abbrev cC (K : PySem.W.Frag) : Addr := He.ga K "Clock"
abbrev cM (K : PySem.W.Frag) : Addr := He.ga K "Limits"
def refs {α : Type} (f : α → Addr) (l : List α) : List V := l.map fun x => V.ref (f x)
def vstrs (l : List Str) : List V := l.map V.str
def vnats (l : List Nat) : List V := l.map fun n => V.int (n : Nat)
def vints (l : List Int) : List V := l.map V.int
def rowsD (l : List RowG) : List (Key × V) := l.map fun r => (Sum.inr r.kind, V.ref r.a)
def cntD (l : List LeaseG) : List (Key × V) := l.map fun r => (Sum.inl (r.num : Int), V.ref r.a)
def staffD (l : List StaffG) : List (Key × V) := l.map fun r => (Sum.inr r.name, V.ref r.t)
def rowL (r : RowG) : List V := [.int r.most, .int r.rate, .int r.cnt, .ref r.tk]
/-! ### the places -/
def pa0 (G : HG) : List Addr := [G.p, G.lim, G.rd, G.jl, G.cd, G.sd, G.cl, G.el]
def pa1 (l : List RowG) : List Addr := l.flatMap fun r => [r.a, r.tk]
def pa2 (l : List JobG) : List Addr := l.map (·.a)
def pa3 (l : List LeaseG) : List Addr := l.map (·.a)
def pa4 (l : List ClockG) : List Addr := l.map (·.a)
def adr (G : HG) : List Addr := pa0 G ++ (pa1 G.rows ++ (pa2 G.jobs ++ (pa3 G.cnt ++ pa4 G.clks)))
structure JobAt (K : PySem.W.Frag) (H : Hp) (g : JobG) : Prop where
  ob : H g.a = some (.ins (cJ K) g.dx (jobFs g))
  st : SqT K H g.t (vstrs g.steps)
  ne : SqT K H g.n (vnats g.needs)
structure LeaseAt (K : PySem.W.Frag) (H : Hp) (g : LeaseG) : Prop where
  ob : H g.a = some (.ins (cE K) g.dx (leaseFs g))
structure ClockAt (K : PySem.W.Frag) (H : Hp) (g : ClockG) : Prop where
  ob : H g.a = some (.ins (cC K) g.dx (clockFs g))
  st : SqT K H g.t (vstrs g.steps)
structure RowAt (H : Hp) (r : RowG) : Prop where
  ob : H r.a = some (.lst (rowL r))
  tk : H r.tk = some (.lst (vints r.ticks))
/-- a house stands at G.p -/
structure HouseAt (K : PySem.W.Frag) (H : Hp) (G : HG) : Prop where
  ob : H G.p = some (.ins (cH K) G.dx (houseFs G))
  lim : H G.lim = some (.ins (cM K) G.ldx [("rows", .ref G.rd)])
  rd : H G.rd = some (.dK (rowsD G.rows))
  jl : H G.jl = some (.lst (refs (·.a) G.jobs))
  cd : H G.cd = some (.dK (cntD G.cnt))
  sd : H G.sd = some (.dK (staffD G.staff))
  cl : H G.cl = some (.lst (refs (·.a) G.clks))
  el : H G.el = some (.lst (G.log.map (·.1)))
  rows : ∀ r ∈ G.rows, RowAt H r
  jobs : ∀ g ∈ G.jobs, JobAt K H g
  cnt : ∀ l ∈ G.cnt, LeaseAt K H l
  clks : ∀ c ∈ G.clks, ClockAt K H c
  staff : ∀ s ∈ G.staff, SqT K H s.t (vstrs s.kinds)
  log : ∀ e ∈ G.log, Dt K H e.1 e.2
  nd : (adr G).Nodup
/-- a place of a house: a list, a dict, an instance -/
def Wr : HO → Prop
  | .lst _ => True
  | .dK _ => True
  | .ins _ _ _ => True
  | _ => False
theorem KeepT.upd {K : PySem.W.Frag} {H : Hp} {a : Addr} {u o : HO} (h : H a = some u) (w : Wr u) : KeepT K H (upd H a o) := fun b xs z => by
  have ne : ∀ v, H b = some v → ¬ Wr v → b ≠ a := fun v e d q => by
    rw [q, h] at e
    rw [← Option.some.inj e] at d
    exact d w
  rcases z with (z | ⟨ob, z⟩) | z
  · exact .inl (.inl (by rw [upd_ne (ne _ z fun q => q)]; exact z))
  · exact .inl (.inr ⟨ob, by rw [upd_ne (ne _ z fun q => q)]; exact z⟩)
  · exact .inr z
theorem KeepT.new {K : PySem.W.Frag} {H : Hp} {a : Addr} {o : HO} (h : H a = none) : KeepT K H (L2.upd H a o) := KeepT.same (same_upd h)
/-! ### what lies apart -/
section
variable {G : HG}
structure Apart (G : HG) : Prop where
  b : (pa0 G).Nodup
  r : (pa1 G.rows).Nodup
  j : (pa2 G.jobs).Nodup
  c : (pa3 G.cnt).Nodup
  k : (pa4 G.clks).Nodup
  br : ∀ x ∈ pa0 G, ∀ y ∈ pa1 G.rows, x ≠ y
  bj : ∀ x ∈ pa0 G, ∀ y ∈ pa2 G.jobs, x ≠ y
  bc : ∀ x ∈ pa0 G, ∀ y ∈ pa3 G.cnt, x ≠ y
  bk : ∀ x ∈ pa0 G, ∀ y ∈ pa4 G.clks, x ≠ y
  rj : ∀ x ∈ pa1 G.rows, ∀ y ∈ pa2 G.jobs, x ≠ y
  rc : ∀ x ∈ pa1 G.rows, ∀ y ∈ pa3 G.cnt, x ≠ y
  rk : ∀ x ∈ pa1 G.rows, ∀ y ∈ pa4 G.clks, x ≠ y
  jc : ∀ x ∈ pa2 G.jobs, ∀ y ∈ pa3 G.cnt, x ≠ y
  jk : ∀ x ∈ pa2 G.jobs, ∀ y ∈ pa4 G.clks, x ≠ y
  ck : ∀ x ∈ pa3 G.cnt, ∀ y ∈ pa4 G.clks, x ≠ y
theorem apart_of (h : (adr G).Nodup) : Apart G := by
  unfold adr at h
  simp only [List.nodup_append, List.mem_append] at h
  obtain ⟨b, ⟨r, ⟨j, ⟨c, k, ck⟩, jx⟩, rx⟩, bx⟩ := h
  exact ⟨b, r, j, c, k, fun x hx y hy => bx x hx y (.inl hy), fun x hx y hy => bx x hx y (.inr (.inl hy)), fun x hx y hy => bx x hx y (.inr (.inr (.inl hy))), fun x hx y hy => bx x hx y (.inr (.inr (.inr hy))),
    fun x hx y hy => rx x hx y (.inl hy), fun x hx y hy => rx x hx y (.inr (.inl hy)), fun x hx y hy => rx x hx y (.inr (.inr hy)), fun x hx y hy => jx x hx y (.inl hy), fun x hx y hy => jx x hx y (.inr hy), ck⟩
theorem Apart.nd (h : Apart G) : (adr G).Nodup := by
  unfold adr
  simp only [List.nodup_append, List.mem_append]
  exact ⟨h.b, ⟨h.r, ⟨h.j, ⟨h.c, h.k, h.ck⟩, fun x hx y hy => hy.elim (h.jc x hx y) (h.jk x hx y)⟩, fun x hx y hy => hy.elim (h.rj x hx y) fun hy => hy.elim (h.rc x hx y) (h.rk x hx y)⟩,
    fun x hx y hy => hy.elim (h.br x hx y) fun hy => hy.elim (h.bj x hx y) fun hy => hy.elim (h.bc x hx y) (h.bk x hx y)⟩
/-- two of the eight base places -/
theorem Apart.ne (h : Apart G) {i j : Nat} {x y : Addr} (hij : i ≠ j) (hx : (pa0 G)[i]? = some x := by rfl) (hy : (pa0 G)[j]? = some y := by rfl) : x ≠ y := fun e => by
  rw [← e] at hy
  exact hij ((List.getElem_inj h.b).mp ((List.getElem?_eq_some_iff.mp hx).2.trans (List.getElem?_eq_some_iff.mp hy).2.symm))
theorem mi0 {i : Nat} {x : Addr} (hx : (pa0 G)[i]? = some x := by rfl) : x ∈ pa0 G := List.mem_of_getElem? hx
theorem mi1 {r : RowG} (h : r ∈ G.rows) : r.a ∈ pa1 G.rows := List.mem_flatMap.mpr ⟨r, h, by simp⟩
theorem mi1t {r : RowG} (h : r ∈ G.rows) : r.tk ∈ pa1 G.rows := List.mem_flatMap.mpr ⟨r, h, by simp⟩
theorem mi2 {g : JobG} (h : g ∈ G.jobs) : g.a ∈ pa2 G.jobs := List.mem_map.mpr ⟨g, h, rfl⟩
theorem mi3 {g : LeaseG} (h : g ∈ G.cnt) : g.a ∈ pa3 G.cnt := List.mem_map.mpr ⟨g, h, rfl⟩
theorem mi4 {g : ClockG} (h : g ∈ G.clks) : g.a ∈ pa4 G.clks := List.mem_map.mpr ⟨g, h, rfl⟩
end
/-- all that G's house leans on stands in H' as in H -/
theorem HouseAt.mono {K : PySem.W.Frag} {H H' : Hp} {G : HG} (h : HouseAt K H G) (k : ∀ b ∈ adr G, ∀ o, H b = some o → H' b = some o) (t : KeepT K H H') : HouseAt K H' G := by
  have m0 : ∀ {x}, x ∈ pa0 G → x ∈ adr G := fun hx => List.mem_append_left _ hx
  have m1 : ∀ {x}, x ∈ pa1 G.rows → x ∈ adr G := fun hx => List.mem_append_right _ (List.mem_append_left _ hx)
  have m2 : ∀ {x}, x ∈ pa2 G.jobs → x ∈ adr G := fun hx => List.mem_append_right _ (List.mem_append_right _ (List.mem_append_left _ hx))
  have m3 : ∀ {x}, x ∈ pa3 G.cnt → x ∈ adr G := fun hx => List.mem_append_right _ (List.mem_append_right _ (List.mem_append_right _ (List.mem_append_left _ hx)))
  have m4 : ∀ {x}, x ∈ pa4 G.clks → x ∈ adr G := fun hx => List.mem_append_right _ (List.mem_append_right _ (List.mem_append_right _ (List.mem_append_right _ hx)))
  exact ⟨k _ (m0 (mi0 (i := 0))) _ h.ob, k _ (m0 (mi0 (i := 1))) _ h.lim, k _ (m0 (mi0 (i := 2))) _ h.rd, k _ (m0 (mi0 (i := 3))) _ h.jl, k _ (m0 (mi0 (i := 4))) _ h.cd, k _ (m0 (mi0 (i := 5))) _ h.sd, k _ (m0 (mi0 (i := 6))) _ h.cl, k _ (m0 (mi0 (i := 7))) _ h.el,
    fun r hr => ⟨k _ (m1 (mi1 hr)) _ (h.rows r hr).ob, k _ (m1 (mi1t hr)) _ (h.rows r hr).tk⟩, fun g hg => ⟨k _ (m2 (mi2 hg)) _ (h.jobs g hg).ob, t _ _ (h.jobs g hg).st, t _ _ (h.jobs g hg).ne⟩,
    fun l hl => ⟨k _ (m3 (mi3 hl)) _ (h.cnt l hl).ob⟩, fun c hc => ⟨k _ (m4 (mi4 hc)) _ (h.clks c hc).ob, t _ _ (h.clks c hc).st⟩, fun s hs => t _ _ (h.staff s hs), fun e he => (h.log e he).keep t, h.nd⟩
theorem HouseAt.same {K : PySem.W.Frag} {H H' : Hp} {G : HG} (h : HouseAt K H G) (s : Same H H') : HouseAt K H' G := h.mono (fun b _ o e => s b o e) (KeepT.same s)
end LH
end

section
set_option Elab.async false
set_option linter.all false
set_option maxRecDepth 100000
set_option maxHeartbeats 4000000
/-! a house is changed -/
namespace LH
open PySem PySem.Spec PyProof.Rows L2 LamX
section
variable {K : PySem.W.Frag} {H H' : Hp} {G G' : HG}
theorem HouseAt.wr (h : HouseAt K H G) {b : Addr} (hb : b ∈ adr G) : ∃ u, H b = some u ∧ Wr u := by
  unfold adr pa0 pa1 pa2 pa3 pa4 at hb
  simp only [List.mem_append, List.mem_cons, List.mem_flatMap, List.mem_map, List.not_mem_nil, or_false] at hb
  rcases hb with (rfl | rfl | rfl | rfl | rfl | rfl | rfl | rfl) | ⟨r, hr, rfl | rfl⟩ | ⟨g, hg, rfl⟩ | ⟨l, hl, rfl⟩ | ⟨c, hc, rfl⟩
  · exact ⟨_, h.ob, trivial⟩
  · exact ⟨_, h.lim, trivial⟩
  · exact ⟨_, h.rd, trivial⟩
  · exact ⟨_, h.jl, trivial⟩
  · exact ⟨_, h.cd, trivial⟩
  · exact ⟨_, h.sd, trivial⟩
  · exact ⟨_, h.cl, trivial⟩
  · exact ⟨_, h.el, trivial⟩
  · exact ⟨_, (h.rows r hr).ob, trivial⟩
  · exact ⟨_, (h.rows r hr).tk, trivial⟩
  · exact ⟨_, (h.jobs g hg).ob, trivial⟩
  · exact ⟨_, (h.cnt l hl).ob, trivial⟩
  · exact ⟨_, (h.clks c hc).ob, trivial⟩
/-- all but the house's places, and the tables, stays; what is no place of it doesn't become one -/
structure FrH (T : List (Addr × Str)) (H : Hp) (G : HG) (H' : Hp) (G' : HG) : Prop where
  keep : ∀ b o, H b = some o → (∀ ps, o ≠ .tbl ps) → b ∉ adr G → H' b = some o ∧ b ∉ adr G'
  tabs : Tabs T H → Tabs T H'
variable {T : List (Addr × Str)}
theorem FrH.refl : FrH T H G H G := ⟨fun b o e _ n => ⟨e, n⟩, fun t => t⟩
theorem FrH.trans {H2 : Hp} {G2 : HG} (a : FrH T H G H' G') (b : FrH T H' G' H2 G2) : FrH T H G H2 G2 :=
  ⟨fun x o e n m => let ⟨e1, m1⟩ := a.keep x o e n m; b.keep x o e1 n m1, fun t => b.tabs (a.tabs t)⟩
theorem KeepT.mk2 (h1 : ∀ b xs, H b = some (.tup xs) → H' b = some (.tup xs)) (h2 : ∀ b o xs, H b = some (.frz o (.tup xs)) → H' b = some (.frz o (.tup xs))) : KeepT K H H' := fun a xs z => by
  rcases z with (z | ⟨o, z⟩) | z
  · exact .inl (.inl (h1 a _ z))
  · exact .inl (.inr ⟨o, h2 a _ _ z⟩)
  · exact .inr z
theorem HouseAt.out (h : HouseAt K H G) {b : Addr} {o : HO} (e : H b = some o) (w : ¬ Wr o) : b ∉ adr G := fun m => by
  obtain ⟨u, e2, w2⟩ := h.wr m
  rw [e] at e2
  rw [Option.some.inj e2] at w
  exact w w2
theorem HouseAt.outN (h : HouseAt K H G) {b : Addr} (e : H b = none) : b ∉ adr G := fun m => by
  obtain ⟨u, e2, w2⟩ := h.wr m
  rw [e] at e2
  cases e2
theorem FrH.keepT (f : FrH T H G H' G') (h : HouseAt K H G) : KeepT K H H' :=
  KeepT.mk2 (fun b xs e => (f.keep b _ e (fun _ z => nomatch z) (h.out e fun z => z)).1) fun b o xs e => (f.keep b _ e (fun _ z => nomatch z) (h.out e fun z => z)).1
theorem tabs_upd {a : Addr} {u o : HO} (ha : H a = some u) (w : Wr u) (t : Tabs T H) : Tabs T (upd H a o) := fun p hp => by
  have ne : ∀ {b v}, H b = some v → ¬ Wr v → b ≠ a := fun {b v} e d q => by
    rw [q, ha] at e
    rw [← Option.some.inj e] at d
    exact d w
  obtain ⟨ps, h1, h2, h3⟩ := t p hp
  refine ⟨ps, by rw [upd_ne (ne h1 fun z => z)]; exact h1, h2, fun pos cv hc => ?_⟩
  obtain ⟨c, e1, e2⟩ := h3 pos cv hc
  exact ⟨c, e1, by rw [upd_ne (ne e2 fun z => z)]; exact e2⟩
/-- a place of the house is written -/
theorem FrH.put {a : Addr} {o : HO} (h : HouseAt K H G) (ha : a ∈ adr G) (hs : ∀ b ∈ adr G', b ∈ adr G) : FrH T H G (upd H a o) G' := by
  obtain ⟨u, e, w⟩ := h.wr ha
  exact ⟨fun b o' e' _ m => ⟨by rw [upd_ne fun z => m (by rw [z]; exact ha)]; exact e', fun z => m (hs b z)⟩, tabs_upd e w⟩
/-- a new object is laid; the house may have it -/
theorem FrH.new {a : Addr} {o : HO} (ha : H a = none) (hs : ∀ b ∈ adr G', b ∈ adr G ∨ H b = none) : FrH T H G (upd H a o) G' :=
  ⟨fun b o' e _ m => ⟨same_upd ha b o' e, fun z => (hs b z).elim m fun q => by rw [e] at q; cases q⟩, fun t => t.ext (same_upd ha)⟩
/-- a new place comes to the house with no change of the heap -/
theorem FrH.same (s : Same H H') (hs : ∀ b ∈ adr G', b ∈ adr G ∨ H b = none) : FrH T H G H' G' :=
  ⟨fun b o e _ m => ⟨s b o e, fun z => (hs b z).elim m fun q => by rw [e] at q; cases q⟩, fun t => t.ext s⟩
/-! ### one place changes -/
theorem st {a b : Addr} {o u : HO} (e : H b = some u) (n : b ≠ a) : upd H a o b = some u := (upd_ne n).trans e
theorem HouseAt.ap (h : HouseAt K H G) : Apart G := apart_of h.nd
theorem b0 {i : Nat} {x : Addr} (hx : (pa0 G)[i]? = some x := by rfl) : x ∈ adr G := List.mem_append_left _ (mi0 hx)
theorem b1 {x : Addr} (hx : x ∈ pa1 G.rows) : x ∈ adr G := List.mem_append_right _ (List.mem_append_left _ hx)
theorem b2 {x : Addr} (hx : x ∈ pa2 G.jobs) : x ∈ adr G := List.mem_append_right _ (List.mem_append_right _ (List.mem_append_left _ hx))
theorem b3 {x : Addr} (hx : x ∈ pa3 G.cnt) : x ∈ adr G := List.mem_append_right _ (List.mem_append_right _ (List.mem_append_right _ (List.mem_append_left _ hx)))
theorem b4 {x : Addr} (hx : x ∈ pa4 G.clks) : x ∈ adr G := List.mem_append_right _ (List.mem_append_right _ (List.mem_append_right _ (List.mem_append_right _ hx)))
/-- the house itself: its ints -/
theorem HouseAt.putP (h : HouseAt K H G) (e : houseFs G' = houseFs G' := by rfl) (hp : G' = { G with here := G'.here, given := G'.given }) : HouseAt K (upd H G.p (.ins (cH K) G.dx (houseFs G'))) G' := by
  obtain ⟨here, given, rfl⟩ : ∃ here given, G' = { G with here := here, given := given } := ⟨_, _, hp⟩
  have A := h.ap
  have t : KeepT K H (upd H G.p (.ins (cH K) G.dx (houseFs { G with here := here, given := given }))) := KeepT.upd h.ob trivial
  exact ⟨upd_same, st h.lim (A.ne (i := 1) (j := 0) (by decide)), st h.rd (A.ne (i := 2) (j := 0) (by decide)), st h.jl (A.ne (i := 3) (j := 0) (by decide)), st h.cd (A.ne (i := 4) (j := 0) (by decide)), st h.sd (A.ne (i := 5) (j := 0) (by decide)),
    st h.cl (A.ne (i := 6) (j := 0) (by decide)), st h.el (A.ne (i := 7) (j := 0) (by decide)), fun r hr => ⟨st (h.rows r hr).ob (A.br _ (mi0 (i := 0)) _ (mi1 hr)).symm, st (h.rows r hr).tk (A.br _ (mi0 (i := 0)) _ (mi1t hr)).symm⟩,
    fun g hg => ⟨st (h.jobs g hg).ob (A.bj _ (mi0 (i := 0)) _ (mi2 hg)).symm, t _ _ (h.jobs g hg).st, t _ _ (h.jobs g hg).ne⟩, fun l hl => ⟨st (h.cnt l hl).ob (A.bc _ (mi0 (i := 0)) _ (mi3 hl)).symm⟩,
    fun c hc => ⟨st (h.clks c hc).ob (A.bk _ (mi0 (i := 0)) _ (mi4 hc)).symm, t _ _ (h.clks c hc).st⟩, fun s hs => t _ _ (h.staff s hs), fun e he => (h.log e he).keep t, h.nd⟩
/-- an entry more -/
theorem HouseAt.putE (h : HouseAt K H G) {v : V} {d : PyData} (hd : Dt K H v d) : HouseAt K (upd H G.el (.lst (G.log.map (·.1) ++ [v]))) { G with log := G.log ++ [(v, d)] } := by
  have A := h.ap
  have t : KeepT K H (upd H G.el (.lst (G.log.map (·.1) ++ [v]))) := KeepT.upd h.el trivial
  refine ⟨st h.ob (A.ne (i := 0) (j := 7) (by decide)), st h.lim (A.ne (i := 1) (j := 7) (by decide)), st h.rd (A.ne (i := 2) (j := 7) (by decide)), st h.jl (A.ne (i := 3) (j := 7) (by decide)), st h.cd (A.ne (i := 4) (j := 7) (by decide)), st h.sd (A.ne (i := 5) (j := 7) (by decide)),
    st h.cl (A.ne (i := 6) (j := 7) (by decide)), ?_, fun r hr => ⟨st (h.rows r hr).ob (A.br _ (mi0 (i := 7)) _ (mi1 hr)).symm, st (h.rows r hr).tk (A.br _ (mi0 (i := 7)) _ (mi1t hr)).symm⟩,
    fun g hg => ⟨st (h.jobs g hg).ob (A.bj _ (mi0 (i := 7)) _ (mi2 hg)).symm, t _ _ (h.jobs g hg).st, t _ _ (h.jobs g hg).ne⟩, fun l hl => ⟨st (h.cnt l hl).ob (A.bc _ (mi0 (i := 7)) _ (mi3 hl)).symm⟩,
    fun c hc => ⟨st (h.clks c hc).ob (A.bk _ (mi0 (i := 7)) _ (mi4 hc)).symm, t _ _ (h.clks c hc).st⟩, fun s hs => t _ _ (h.staff s hs), fun e he => ?_, h.nd⟩
  · show upd H G.el (.lst (G.log.map (·.1) ++ [v])) G.el = some (.lst ((G.log ++ [(v, d)]).map (·.1)))
    rw [upd_same, List.map_append]
    rfl
  · rcases List.mem_append.mp he with q | q
    · exact (h.log e q).keep t
    · rw [List.mem_singleton.mp q]
      exact hd.keep t
theorem set_mem {α : Type} {l : List α} {i : Nat} {x y : α} (h : y ∈ l.set i x) : y = x ∨ ∃ j, j ≠ i ∧ l[j]? = some y := by
  obtain ⟨j, hj⟩ := List.mem_iff_getElem?.mp h
  by_cases e : i = j
  · subst e
    rw [List.getElem?_set] at hj
    simp only [if_true] at hj
    split at hj
    · exact .inl (Option.some.inj hj).symm
    · cases hj
  · rw [List.getElem?_set_ne e] at hj
    exact .inr ⟨j, fun q => e q.symm, hj⟩
theorem map_set' {α β : Type} {f : α → β} {l : List α} {i : Nat} {x y : α} (hy : l[i]? = some y) (e : f x = f y) : (l.set i x).map f = l.map f := by
  rw [List.map_set, e]
  apply List.ext_getElem?
  intro j
  by_cases q : i = j
  · subst q
    rw [List.getElem?_set]
    simp only [if_true]
    rw [List.getElem?_map, hy]
    split
    · rfl
    · rename_i n
      exact absurd (by rw [List.length_map]; exact (List.getElem?_eq_some_iff.mp hy).1) n
  · rw [List.getElem?_set_ne q]
/-- by their places unlike -/
theorem apart_ix {α : Type} {f : α → Addr} {l : List α} (nd : (l.map f).Nodup) {i j : Nat} {x y : α} (hx : l[i]? = some x) (hy : l[j]? = some y) (ij : j ≠ i) : f y ≠ f x := fun e => by
  have h1 : (l.map f)[i]? = some (f x) := by rw [List.getElem?_map, hx]; rfl
  have h2 : (l.map f)[j]? = some (f x) := by rw [List.getElem?_map, hy, ← e]; rfl
  exact ij ((List.getElem_inj nd).mp ((List.getElem?_eq_some_iff.mp h2).2.trans (List.getElem?_eq_some_iff.mp h1).2.symm))
theorem nd_ins {A B : List Addr} {x : Addr} (h : (A ++ B).Nodup) (n : x ∉ A ++ B) : (A ++ x :: B).Nodup :=
  (List.perm_middle.nodup_iff).mpr (List.nodup_cons.mpr ⟨n, h⟩)
theorem pa1_set {l : List RowG} {i : Nat} {r r' : RowG} (hr : l[i]? = some r) (e1 : r'.a = r.a) (e2 : r'.tk = r.tk) : pa1 (l.set i r') = pa1 l := by
  unfold pa1
  rw [List.flatMap_def, List.flatMap_def, map_set' hr (by rw [e1, e2])]
theorem row_ne {l : List RowG} (nd : (pa1 l).Nodup) : ∀ {i j : Nat} {r r' : RowG}, l[i]? = some r → l[j]? = some r' → j ≠ i → r'.a ≠ r.a ∧ r'.a ≠ r.tk ∧ r'.tk ≠ r.a ∧ r'.tk ≠ r.tk := by
  induction l with
  | nil =>
    intro i j r r' h
    simp at h
  | cons x l ih =>
    have nd : (x.a :: x.tk :: pa1 l).Nodup := nd
    obtain ⟨n1, nd2⟩ := List.nodup_cons.mp nd
    obtain ⟨n2, nd3⟩ := List.nodup_cons.mp nd2
    have m1 : ∀ {j : Nat} {r : RowG}, l[j]? = some r → r.a ∈ pa1 l ∧ r.tk ∈ pa1 l := fun {j r} h => ⟨List.mem_flatMap.mpr ⟨r, List.mem_of_getElem? h, by simp⟩, List.mem_flatMap.mpr ⟨r, List.mem_of_getElem? h, by simp⟩⟩
    intro i j r r' hi hj ij
    cases i with
    | zero =>
      cases j with
      | zero => exact absurd rfl ij
      | succ j =>
        have e : x = r := Option.some.inj hi
        subst e
        obtain ⟨a1, a2⟩ := m1 (show l[j]? = some r' from hj)
        exact ⟨fun z => n1 (List.mem_cons_of_mem _ (z ▸ a1)), fun z => n2 (z ▸ a1), fun z => n1 (List.mem_cons_of_mem _ (z ▸ a2)), fun z => n2 (z ▸ a2)⟩
    | succ i =>
      cases j with
      | zero =>
        have e : x = r' := Option.some.inj hj
        subst e
        obtain ⟨a1, a2⟩ := m1 (show l[i]? = some r from hi)
        exact ⟨fun z => n1 (List.mem_cons_of_mem _ (z.symm ▸ a1)), fun z => n1 (List.mem_cons_of_mem _ (z.symm ▸ a2)), fun z => n2 (z.symm ▸ a1), fun z => n2 (z.symm ▸ a2)⟩
      | succ j => exact ih nd3 (show l[i]? = some r from hi) (show l[j]? = some r' from hj) fun z => ij (congrArg Nat.succ z)
theorem row_at {l : List RowG} (nd : (pa1 l).Nodup) : ∀ {r : RowG}, r ∈ l → r.a ≠ r.tk := by
  induction l with
  | nil =>
    intro r h
    cases h
  | cons x l ih =>
    have nd : (x.a :: x.tk :: pa1 l).Nodup := nd
    obtain ⟨n1, nd2⟩ := List.nodup_cons.mp nd
    obtain ⟨n2, nd3⟩ := List.nodup_cons.mp nd2
    intro r h
    rcases List.mem_cons.mp h with e | e
    · subst e
      exact fun z => n1 (z ▸ List.mem_cons_self)
    · exact ih nd3 e

theorem HouseAt.putJ (h : HouseAt K H G) {g : JobG} (hg0 : JobAt K H g) (hn : g.a ∉ adr G) : HouseAt K (upd H G.jl (.lst (refs (·.a) G.jobs ++ [.ref g.a]))) ({ G with jobs := G.jobs ++ [g] }) := by
  have A := h.ap
  have t : KeepT K H (upd H G.jl (.lst (refs (·.a) G.jobs ++ [.ref g.a]))) := KeepT.upd h.jl trivial
  exact ⟨st h.ob (A.ne (i := 0) (j := 3) (by decide)),
    st h.lim (A.ne (i := 1) (j := 3) (by decide)),
    st h.rd (A.ne (i := 2) (j := 3) (by decide)),
    by show upd H G.jl (.lst (refs (·.a) G.jobs ++ [.ref g.a])) G.jl = some (.lst (refs (·.a) (G.jobs ++ [g]))); rw [upd_same]; unfold refs; rw [List.map_append]; rfl,
    st h.cd (A.ne (i := 4) (j := 3) (by decide)),
    st h.sd (A.ne (i := 5) (j := 3) (by decide)),
    st h.cl (A.ne (i := 6) (j := 3) (by decide)),
    st h.el (A.ne (i := 7) (j := 3) (by decide)),
    fun r hr => ⟨st (h.rows r hr).ob ((A.br _ (mi0 (i := 3)) _ (mi1 hr)).symm), st (h.rows r hr).tk ((A.br _ (mi0 (i := 3)) _ (mi1t hr)).symm)⟩,
    fun x hx => by
      rcases List.mem_append.mp hx with q | q
      · exact ⟨st (h.jobs x q).ob (A.bj _ (mi0 (i := 3)) _ (mi2 q)).symm, t _ _ (h.jobs x q).st, t _ _ (h.jobs x q).ne⟩
      · rw [List.mem_singleton.mp q]
        exact ⟨st hg0.ob fun z => hn (by rw [z]; exact b0 (i := 3)), t _ _ hg0.st, t _ _ hg0.ne⟩,
    fun l hl => ⟨st (h.cnt l hl).ob ((A.bc _ (mi0 (i := 3)) _ (mi3 hl)).symm)⟩,
    fun c hc => ⟨st (h.clks c hc).ob ((A.bk _ (mi0 (i := 3)) _ (mi4 hc)).symm), t _ _ (h.clks c hc).st⟩,
    fun s hs => t _ _ (h.staff s hs),
    fun e he => (h.log e he).keep t,
    by
      have e : adr { G with jobs := G.jobs ++ [g] } = (pa0 G ++ (pa1 G.rows ++ pa2 G.jobs)) ++ g.a :: (pa3 G.cnt ++ pa4 G.clks) := by
        unfold adr pa2
        simp [List.append_assoc, pa0]
      have e2 : adr G = (pa0 G ++ (pa1 G.rows ++ pa2 G.jobs)) ++ (pa3 G.cnt ++ pa4 G.clks) := by
        unfold adr
        simp [List.append_assoc]
      rw [e]
      exact nd_ins (by rw [← e2]; exact h.nd) (by rw [← e2]; exact hn)⟩

theorem HouseAt.setJ (h : HouseAt K H G) {g g' : JobG} {i : Nat} (hi : G.jobs[i]? = some g) (ea : g'.a = g.a) (et : g'.t = g.t) (en : g'.n = g.n) (es : g'.steps = g.steps) (ed : g'.needs = g.needs) : HouseAt K (upd H g.a (HO.ins (cJ K) g'.dx (jobFs g'))) ({ G with jobs := G.jobs.set i g' }) := by
  have A := h.ap
  have hx : g.a ∈ pa2 G.jobs := mi2 (List.mem_of_getElem? hi)
  have t : KeepT K H (upd H g.a (HO.ins (cJ K) g'.dx (jobFs g'))) := KeepT.upd (h.jobs g (List.mem_of_getElem? hi)).ob trivial
  exact ⟨st h.ob (A.bj _ (mi0 (i := 0)) _ hx),
    st h.lim (A.bj _ (mi0 (i := 1)) _ hx),
    st h.rd (A.bj _ (mi0 (i := 2)) _ hx),
    by show _ = some (HO.lst (refs (·.a) (G.jobs.set i g'))); unfold refs; rw [map_set' hi (congrArg V.ref ea)]; exact st h.jl (A.bj _ (mi0 (i := 3)) _ hx),
    st h.cd (A.bj _ (mi0 (i := 4)) _ hx),
    st h.sd (A.bj _ (mi0 (i := 5)) _ hx),
    st h.cl (A.bj _ (mi0 (i := 6)) _ hx),
    st h.el (A.bj _ (mi0 (i := 7)) _ hx),
    fun r hr => ⟨st (h.rows r hr).ob (A.rj _ (mi1 hr) _ hx), st (h.rows r hr).tk (A.rj _ (mi1t hr) _ hx)⟩,
    fun x hx' => by
      rcases set_mem hx' with q | ⟨j, ji, q⟩
      · rw [q]
        exact ⟨by rw [ea]; exact upd_same, by rw [et, es]; exact t _ _ (h.jobs g (List.mem_of_getElem? hi)).st, by rw [en, ed]; exact t _ _ (h.jobs g (List.mem_of_getElem? hi)).ne⟩
      · have m := List.mem_of_getElem? q
        exact ⟨st (h.jobs x m).ob (apart_ix A.j hi q ji), t _ _ (h.jobs x m).st, t _ _ (h.jobs x m).ne⟩,
    fun l hl => ⟨st (h.cnt l hl).ob ((A.jc _ hx _ (mi3 hl)).symm)⟩,
    fun c hc => ⟨st (h.clks c hc).ob ((A.jk _ hx _ (mi4 hc)).symm), t _ _ (h.clks c hc).st⟩,
    fun s hs => t _ _ (h.staff s hs),
    fun e he => (h.log e he).keep t,
    by
      have e : pa2 (G.jobs.set i g') = pa2 G.jobs := map_set' hi ea
      show (pa0 G ++ (pa1 G.rows ++ (pa2 (G.jobs.set i g') ++ _))).Nodup
      rw [e]
      exact h.nd⟩

theorem HouseAt.putC (h : HouseAt K H G) {l : LeaseG} (hl0 : LeaseAt K H l) (hn : l.a ∉ adr G) : HouseAt K (upd H G.cd (.dK (cntD (G.cnt ++ [l])))) ({ G with cnt := G.cnt ++ [l] }) := by
  have A := h.ap
  have t : KeepT K H (upd H G.cd (.dK (cntD (G.cnt ++ [l])))) := KeepT.upd h.cd trivial
  exact ⟨st h.ob (A.ne (i := 0) (j := 4) (by decide)),
    st h.lim (A.ne (i := 1) (j := 4) (by decide)),
    st h.rd (A.ne (i := 2) (j := 4) (by decide)),
    st h.jl (A.ne (i := 3) (j := 4) (by decide)),
    upd_same,
    st h.sd (A.ne (i := 5) (j := 4) (by decide)),
    st h.cl (A.ne (i := 6) (j := 4) (by decide)),
    st h.el (A.ne (i := 7) (j := 4) (by decide)),
    fun r hr => ⟨st (h.rows r hr).ob ((A.br _ (mi0 (i := 4)) _ (mi1 hr)).symm), st (h.rows r hr).tk ((A.br _ (mi0 (i := 4)) _ (mi1t hr)).symm)⟩,
    fun g hg => ⟨st (h.jobs g hg).ob ((A.bj _ (mi0 (i := 4)) _ (mi2 hg)).symm), t _ _ (h.jobs g hg).st, t _ _ (h.jobs g hg).ne⟩,
    fun x hx => by
      rcases List.mem_append.mp hx with q | q
      · exact ⟨st (h.cnt x q).ob (A.bc _ (mi0 (i := 4)) _ (mi3 q)).symm⟩
      · rw [List.mem_singleton.mp q]
        exact ⟨st hl0.ob fun z => hn (by rw [z]; exact b0 (i := 4))⟩,
    fun c hc => ⟨st (h.clks c hc).ob ((A.bk _ (mi0 (i := 4)) _ (mi4 hc)).symm), t _ _ (h.clks c hc).st⟩,
    fun s hs => t _ _ (h.staff s hs),
    fun e he => (h.log e he).keep t,
    by
      have e : adr { G with cnt := G.cnt ++ [l] } = (pa0 G ++ (pa1 G.rows ++ (pa2 G.jobs ++ pa3 G.cnt))) ++ l.a :: pa4 G.clks := by
        unfold adr pa3
        simp [List.append_assoc, pa0]
      have e2 : adr G = (pa0 G ++ (pa1 G.rows ++ (pa2 G.jobs ++ pa3 G.cnt))) ++ pa4 G.clks := by
        unfold adr
        simp [List.append_assoc]
      rw [e]
      exact nd_ins (by rw [← e2]; exact h.nd) (by rw [← e2]; exact hn)⟩

theorem HouseAt.dropC (h : HouseAt K H G) (p : LeaseG → Bool) : HouseAt K (upd H G.cd (.dK (cntD (G.cnt.filter p)))) ({ G with cnt := G.cnt.filter p }) := by
  have A := h.ap
  have t : KeepT K H (upd H G.cd (.dK (cntD (G.cnt.filter p)))) := KeepT.upd h.cd trivial
  exact ⟨st h.ob (A.ne (i := 0) (j := 4) (by decide)),
    st h.lim (A.ne (i := 1) (j := 4) (by decide)),
    st h.rd (A.ne (i := 2) (j := 4) (by decide)),
    st h.jl (A.ne (i := 3) (j := 4) (by decide)),
    upd_same,
    st h.sd (A.ne (i := 5) (j := 4) (by decide)),
    st h.cl (A.ne (i := 6) (j := 4) (by decide)),
    st h.el (A.ne (i := 7) (j := 4) (by decide)),
    fun r hr => ⟨st (h.rows r hr).ob ((A.br _ (mi0 (i := 4)) _ (mi1 hr)).symm), st (h.rows r hr).tk ((A.br _ (mi0 (i := 4)) _ (mi1t hr)).symm)⟩,
    fun g hg => ⟨st (h.jobs g hg).ob ((A.bj _ (mi0 (i := 4)) _ (mi2 hg)).symm), t _ _ (h.jobs g hg).st, t _ _ (h.jobs g hg).ne⟩,
    fun x hx => by
      have q := (List.mem_filter.mp hx).1
      exact ⟨st (h.cnt x q).ob (A.bc _ (mi0 (i := 4)) _ (mi3 q)).symm⟩,
    fun c hc => ⟨st (h.clks c hc).ob ((A.bk _ (mi0 (i := 4)) _ (mi4 hc)).symm), t _ _ (h.clks c hc).st⟩,
    fun s hs => t _ _ (h.staff s hs),
    fun e he => (h.log e he).keep t,
    by
      refine List.Nodup.sublist ?_ h.nd
      exact (List.Sublist.refl _).append ((List.Sublist.refl _).append ((List.Sublist.refl _).append ((List.filter_sublist.map _).append (List.Sublist.refl _))))⟩

theorem HouseAt.setC (h : HouseAt K H G) {l l' : LeaseG} {i : Nat} (hi : G.cnt[i]? = some l) (ea : l'.a = l.a) (en : l'.num = l.num) : HouseAt K (upd H l.a (HO.ins (cE K) l'.dx (leaseFs l'))) ({ G with cnt := G.cnt.set i l' }) := by
  have A := h.ap
  have hx : l.a ∈ pa3 G.cnt := mi3 (List.mem_of_getElem? hi)
  have t : KeepT K H (upd H l.a (HO.ins (cE K) l'.dx (leaseFs l'))) := KeepT.upd (h.cnt l (List.mem_of_getElem? hi)).ob trivial
  exact ⟨st h.ob (A.bc _ (mi0 (i := 0)) _ hx),
    st h.lim (A.bc _ (mi0 (i := 1)) _ hx),
    st h.rd (A.bc _ (mi0 (i := 2)) _ hx),
    st h.jl (A.bc _ (mi0 (i := 3)) _ hx),
    by show _ = some (HO.dK (cntD (G.cnt.set i l'))); unfold cntD; rw [map_set' hi (by rw [ea, en])]; exact st h.cd (A.bc _ (mi0 (i := 4)) _ hx),
    st h.sd (A.bc _ (mi0 (i := 5)) _ hx),
    st h.cl (A.bc _ (mi0 (i := 6)) _ hx),
    st h.el (A.bc _ (mi0 (i := 7)) _ hx),
    fun r hr => ⟨st (h.rows r hr).ob (A.rc _ (mi1 hr) _ hx), st (h.rows r hr).tk (A.rc _ (mi1t hr) _ hx)⟩,
    fun g hg => ⟨st (h.jobs g hg).ob (A.jc _ (mi2 hg) _ hx), t _ _ (h.jobs g hg).st, t _ _ (h.jobs g hg).ne⟩,
    fun x hx' => by
      rcases set_mem hx' with q | ⟨j, ji, q⟩
      · rw [q]
        exact ⟨by rw [ea]; exact upd_same⟩
      · exact ⟨st (h.cnt x (List.mem_of_getElem? q)).ob (apart_ix A.c hi q ji)⟩,
    fun c hc => ⟨st (h.clks c hc).ob ((A.ck _ hx _ (mi4 hc)).symm), t _ _ (h.clks c hc).st⟩,
    fun s hs => t _ _ (h.staff s hs),
    fun e he => (h.log e he).keep t,
    by
      have e : pa3 (G.cnt.set i l') = pa3 G.cnt := map_set' hi ea
      show (pa0 G ++ (pa1 G.rows ++ (pa2 G.jobs ++ (pa3 (G.cnt.set i l') ++ _)))).Nodup
      rw [e]
      exact h.nd⟩

theorem HouseAt.setR (h : HouseAt K H G) {r r' : RowG} {i : Nat} (hi : G.rows[i]? = some r) (ea : r'.a = r.a) (et : r'.tk = r.tk) (ek : r'.kind = r.kind) (ec : r'.ticks = r.ticks) : HouseAt K (upd H r.a (HO.lst (rowL r'))) ({ G with rows := G.rows.set i r' }) := by
  have A := h.ap
  have hm := List.mem_of_getElem? hi
  have hx : r.a ∈ pa1 G.rows := mi1 hm
  have t : KeepT K H (upd H r.a (HO.lst (rowL r'))) := KeepT.upd (h.rows r hm).ob trivial
  exact ⟨st h.ob (A.br _ (mi0 (i := 0)) _ hx),
    st h.lim (A.br _ (mi0 (i := 1)) _ hx),
    by show _ = some (HO.dK (rowsD (G.rows.set i r'))); unfold rowsD; rw [map_set' hi (by rw [ea, ek])]; exact st h.rd (A.br _ (mi0 (i := 2)) _ hx),
    st h.jl (A.br _ (mi0 (i := 3)) _ hx),
    st h.cd (A.br _ (mi0 (i := 4)) _ hx),
    st h.sd (A.br _ (mi0 (i := 5)) _ hx),
    st h.cl (A.br _ (mi0 (i := 6)) _ hx),
    st h.el (A.br _ (mi0 (i := 7)) _ hx),
    fun x hx' => by
      rcases set_mem hx' with q | ⟨j, ji, q⟩
      · rw [q]
        exact ⟨by rw [ea]; exact upd_same, by rw [et, ec]; exact st (h.rows r hm).tk (row_at A.r hm).symm⟩
      · have m := List.mem_of_getElem? q
        have z := row_ne A.r hi q ji
        exact ⟨st (h.rows x m).ob z.1, st (h.rows x m).tk z.2.2.1⟩,
    fun g hg => ⟨st (h.jobs g hg).ob ((A.rj _ hx _ (mi2 hg)).symm), t _ _ (h.jobs g hg).st, t _ _ (h.jobs g hg).ne⟩,
    fun l hl => ⟨st (h.cnt l hl).ob ((A.rc _ hx _ (mi3 hl)).symm)⟩,
    fun c hc => ⟨st (h.clks c hc).ob ((A.rk _ hx _ (mi4 hc)).symm), t _ _ (h.clks c hc).st⟩,
    fun s hs => t _ _ (h.staff s hs),
    fun e he => (h.log e he).keep t,
    by
      show (pa0 G ++ (pa1 (G.rows.set i r') ++ _)).Nodup
      rw [pa1_set hi ea et]
      exact h.nd⟩

theorem HouseAt.setT (h : HouseAt K H G) {r r' : RowG} {i : Nat} (hi : G.rows[i]? = some r) (er : r' = { r with ticks := r'.ticks }) : HouseAt K (upd H r.tk (HO.lst (vints r'.ticks))) ({ G with rows := G.rows.set i r' }) := by
  have A := h.ap
  have hm := List.mem_of_getElem? hi
  have hx : r.tk ∈ pa1 G.rows := mi1t hm
  have ea : r'.a = r.a := by rw [er]
  have et : r'.tk = r.tk := by rw [er]
  have ek : r'.kind = r.kind := by rw [er]
  have el : rowL r' = rowL r := by rw [er]; rfl
  have t : KeepT K H (upd H r.tk (HO.lst (vints r'.ticks))) := KeepT.upd (h.rows r hm).tk trivial
  exact ⟨st h.ob (A.br _ (mi0 (i := 0)) _ hx),
    st h.lim (A.br _ (mi0 (i := 1)) _ hx),
    by show _ = some (HO.dK (rowsD (G.rows.set i r'))); unfold rowsD; rw [map_set' hi (by rw [ea, ek])]; exact st h.rd (A.br _ (mi0 (i := 2)) _ hx),
    st h.jl (A.br _ (mi0 (i := 3)) _ hx),
    st h.cd (A.br _ (mi0 (i := 4)) _ hx),
    st h.sd (A.br _ (mi0 (i := 5)) _ hx),
    st h.cl (A.br _ (mi0 (i := 6)) _ hx),
    st h.el (A.br _ (mi0 (i := 7)) _ hx),
    fun x hx' => by
      rcases set_mem hx' with q | ⟨j, ji, q⟩
      · rw [q]
        exact ⟨by rw [ea, el]; exact st (h.rows r hm).ob (row_at A.r hm), by rw [et]; exact upd_same⟩
      · have m := List.mem_of_getElem? q
        have z := row_ne A.r hi q ji
        exact ⟨st (h.rows x m).ob z.2.1, st (h.rows x m).tk z.2.2.2⟩,
    fun g hg => ⟨st (h.jobs g hg).ob ((A.rj _ hx _ (mi2 hg)).symm), t _ _ (h.jobs g hg).st, t _ _ (h.jobs g hg).ne⟩,
    fun l hl => ⟨st (h.cnt l hl).ob ((A.rc _ hx _ (mi3 hl)).symm)⟩,
    fun c hc => ⟨st (h.clks c hc).ob ((A.rk _ hx _ (mi4 hc)).symm), t _ _ (h.clks c hc).st⟩,
    fun s hs => t _ _ (h.staff s hs),
    fun e he => (h.log e he).keep t,
    by
      show (pa0 G ++ (pa1 (G.rows.set i r') ++ _)).Nodup
      rw [pa1_set hi ea et]
      exact h.nd⟩

theorem pa1_new {l : List RowG} {i : Nat} {r r' : RowG} (hr : l[i]? = some r) (ea : r'.a = r.a) : ∃ A B, pa1 l = A ++ r.tk :: B ∧ pa1 (l.set i r') = A ++ r'.tk :: B := by
  induction l generalizing i with
  | nil => simp at hr
  | cons x l ih =>
    cases i with
    | zero =>
      have e : x = r := Option.some.inj hr
      subst e
      refine ⟨[x.a], pa1 l, rfl, ?_⟩
      show r'.a :: r'.tk :: pa1 l = _
      rw [ea]
      rfl
    | succ i =>
      obtain ⟨A, B, e1, e2⟩ := ih (show l[i]? = some r from hr)
      refine ⟨x.a :: x.tk :: A, B, ?_, ?_⟩
      · show x.a :: x.tk :: pa1 l = _
        rw [e1]
        rfl
      · show x.a :: x.tk :: pa1 (l.set i r') = _
        rw [e2]
        rfl

theorem HouseAt.newT (h : HouseAt K H G) {r r' : RowG} {i : Nat} (hi : G.rows[i]? = some r) (er : r' = { r with tk := r'.tk, ticks := r'.ticks }) (hq : H r'.tk = some (.lst (vints r'.ticks))) (hn : r'.tk ∉ adr G) : HouseAt K (upd H r.a (HO.lst (rowL r'))) ({ G with rows := G.rows.set i r' }) := by
  have A := h.ap
  have hm := List.mem_of_getElem? hi
  have hx : r.a ∈ pa1 G.rows := mi1 hm
  have ea : r'.a = r.a := by rw [er]
  have ek : r'.kind = r.kind := by rw [er]
  have t : KeepT K H (upd H r.a (HO.lst (rowL r'))) := KeepT.upd (h.rows r hm).ob trivial
  exact ⟨st h.ob (A.br _ (mi0 (i := 0)) _ hx),
    st h.lim (A.br _ (mi0 (i := 1)) _ hx),
    by show _ = some (HO.dK (rowsD (G.rows.set i r'))); unfold rowsD; rw [map_set' hi (by rw [ea, ek])]; exact st h.rd (A.br _ (mi0 (i := 2)) _ hx),
    st h.jl (A.br _ (mi0 (i := 3)) _ hx),
    st h.cd (A.br _ (mi0 (i := 4)) _ hx),
    st h.sd (A.br _ (mi0 (i := 5)) _ hx),
    st h.cl (A.br _ (mi0 (i := 6)) _ hx),
    st h.el (A.br _ (mi0 (i := 7)) _ hx),
    fun x hx' => by
      rcases set_mem hx' with q | ⟨j, ji, q⟩
      · rw [q]
        exact ⟨by rw [ea]; exact upd_same, st hq fun z => hn (by rw [z]; exact b1 hx)⟩
      · have m := List.mem_of_getElem? q
        have z := row_ne A.r hi q ji
        exact ⟨st (h.rows x m).ob z.1, st (h.rows x m).tk z.2.2.1⟩,
    fun g hg => ⟨st (h.jobs g hg).ob ((A.rj _ hx _ (mi2 hg)).symm), t _ _ (h.jobs g hg).st, t _ _ (h.jobs g hg).ne⟩,
    fun l hl => ⟨st (h.cnt l hl).ob ((A.rc _ hx _ (mi3 hl)).symm)⟩,
    fun c hc => ⟨st (h.clks c hc).ob ((A.rk _ hx _ (mi4 hc)).symm), t _ _ (h.clks c hc).st⟩,
    fun s hs => t _ _ (h.staff s hs),
    fun e he => (h.log e he).keep t,
    by
      obtain ⟨B1, B2, e1, e2⟩ := pa1_new hi ea
      have n0 := h.nd
      have hn0 := hn
      unfold adr at n0 hn0
      show (pa0 G ++ (pa1 (G.rows.set i r') ++ (pa2 G.jobs ++ (pa3 G.cnt ++ pa4 G.clks)))).Nodup
      rw [e2]
      rw [e1] at n0 hn0
      have n1 : ((pa0 G ++ B1) ++ r.tk :: (B2 ++ (pa2 G.jobs ++ (pa3 G.cnt ++ pa4 G.clks)))).Nodup := by simpa [List.append_assoc] using n0
      have n2 := (List.nodup_cons.mp ((List.perm_middle.nodup_iff).mp n1)).2
      have z : ((pa0 G ++ B1) ++ r'.tk :: (B2 ++ (pa2 G.jobs ++ (pa3 G.cnt ++ pa4 G.clks)))).Nodup := nd_ins n2 fun m => hn0 (by
        simp only [List.mem_append, List.mem_cons] at m ⊢
        rcases m with (m | m) | m | m
        · exact .inl m
        · exact .inr (.inl (.inl m))
        · exact .inr (.inl (.inr (.inr m)))
        · exact .inr (.inr m))
      simpa [List.append_assoc] using z⟩

theorem HouseAt.putS (h : HouseAt K H G) (L : List StaffG) (hL : ∀ s ∈ L, SqT K H s.t (vstrs s.kinds)) : HouseAt K (upd H G.sd (.dK (staffD L))) ({ G with staff := L }) := by
  have A := h.ap
  have t : KeepT K H (upd H G.sd (.dK (staffD L))) := KeepT.upd h.sd trivial
  exact ⟨st h.ob (A.ne (i := 0) (j := 5) (by decide)),
    st h.lim (A.ne (i := 1) (j := 5) (by decide)),
    st h.rd (A.ne (i := 2) (j := 5) (by decide)),
    st h.jl (A.ne (i := 3) (j := 5) (by decide)),
    st h.cd (A.ne (i := 4) (j := 5) (by decide)),
    upd_same,
    st h.cl (A.ne (i := 6) (j := 5) (by decide)),
    st h.el (A.ne (i := 7) (j := 5) (by decide)),
    fun r hr => ⟨st (h.rows r hr).ob ((A.br _ (mi0 (i := 5)) _ (mi1 hr)).symm), st (h.rows r hr).tk ((A.br _ (mi0 (i := 5)) _ (mi1t hr)).symm)⟩,
    fun g hg => ⟨st (h.jobs g hg).ob ((A.bj _ (mi0 (i := 5)) _ (mi2 hg)).symm), t _ _ (h.jobs g hg).st, t _ _ (h.jobs g hg).ne⟩,
    fun l hl => ⟨st (h.cnt l hl).ob ((A.bc _ (mi0 (i := 5)) _ (mi3 hl)).symm)⟩,
    fun c hc => ⟨st (h.clks c hc).ob ((A.bk _ (mi0 (i := 5)) _ (mi4 hc)).symm), t _ _ (h.clks c hc).st⟩,
    fun s hs => t _ _ (hL s hs),
    fun e he => (h.log e he).keep t,
    h.nd⟩

theorem HouseAt.putK (h : HouseAt K H G) {c : ClockG} (hc0 : ClockAt K H c) (hn : c.a ∉ adr G) : HouseAt K (upd H G.cl (.lst (refs (·.a) G.clks ++ [.ref c.a]))) ({ G with clks := G.clks ++ [c] }) := by
  have A := h.ap
  have t : KeepT K H (upd H G.cl (.lst (refs (·.a) G.clks ++ [.ref c.a]))) := KeepT.upd h.cl trivial
  exact ⟨st h.ob (A.ne (i := 0) (j := 6) (by decide)),
    st h.lim (A.ne (i := 1) (j := 6) (by decide)),
    st h.rd (A.ne (i := 2) (j := 6) (by decide)),
    st h.jl (A.ne (i := 3) (j := 6) (by decide)),
    st h.cd (A.ne (i := 4) (j := 6) (by decide)),
    st h.sd (A.ne (i := 5) (j := 6) (by decide)),
    by show upd H G.cl (.lst (refs (·.a) G.clks ++ [.ref c.a])) G.cl = some (.lst (refs (·.a) (G.clks ++ [c]))); rw [upd_same]; unfold refs; rw [List.map_append]; rfl,
    st h.el (A.ne (i := 7) (j := 6) (by decide)),
    fun r hr => ⟨st (h.rows r hr).ob ((A.br _ (mi0 (i := 6)) _ (mi1 hr)).symm), st (h.rows r hr).tk ((A.br _ (mi0 (i := 6)) _ (mi1t hr)).symm)⟩,
    fun g hg => ⟨st (h.jobs g hg).ob ((A.bj _ (mi0 (i := 6)) _ (mi2 hg)).symm), t _ _ (h.jobs g hg).st, t _ _ (h.jobs g hg).ne⟩,
    fun l hl => ⟨st (h.cnt l hl).ob ((A.bc _ (mi0 (i := 6)) _ (mi3 hl)).symm)⟩,
    fun x hx => by
      rcases List.mem_append.mp hx with q | q
      · exact ⟨st (h.clks x q).ob (A.bk _ (mi0 (i := 6)) _ (mi4 q)).symm, t _ _ (h.clks x q).st⟩
      · rw [List.mem_singleton.mp q]
        exact ⟨st hc0.ob fun z => hn (by rw [z]; exact b0 (i := 6)), t _ _ hc0.st⟩,
    fun s hs => t _ _ (h.staff s hs),
    fun e he => (h.log e he).keep t,
    by
      have e : adr { G with clks := G.clks ++ [c] } = (pa0 G ++ (pa1 G.rows ++ (pa2 G.jobs ++ (pa3 G.cnt ++ pa4 G.clks)))) ++ c.a :: [] := by
        unfold adr pa4
        simp [List.append_assoc, pa0]
      have e2 : adr G = (pa0 G ++ (pa1 G.rows ++ (pa2 G.jobs ++ (pa3 G.cnt ++ pa4 G.clks)))) ++ [] := by
        unfold adr
        simp [List.append_assoc]
      rw [e]
      exact nd_ins (by rw [← e2]; exact h.nd) (by rw [← e2]; exact hn)⟩

theorem HouseAt.setK (h : HouseAt K H G) {c c' : ClockG} {i : Nat} (hi : G.clks[i]? = some c) (ea : c'.a = c.a) (et : c'.t = c.t) (es : c'.steps = c.steps) : HouseAt K (upd H c.a (HO.ins (cC K) c'.dx (clockFs c'))) ({ G with clks := G.clks.set i c' }) := by
  have A := h.ap
  have hx : c.a ∈ pa4 G.clks := mi4 (List.mem_of_getElem? hi)
  have t : KeepT K H (upd H c.a (HO.ins (cC K) c'.dx (clockFs c'))) := KeepT.upd (h.clks c (List.mem_of_getElem? hi)).ob trivial
  exact ⟨st h.ob (A.bk _ (mi0 (i := 0)) _ hx),
    st h.lim (A.bk _ (mi0 (i := 1)) _ hx),
    st h.rd (A.bk _ (mi0 (i := 2)) _ hx),
    st h.jl (A.bk _ (mi0 (i := 3)) _ hx),
    st h.cd (A.bk _ (mi0 (i := 4)) _ hx),
    st h.sd (A.bk _ (mi0 (i := 5)) _ hx),
    by show _ = some (HO.lst (refs (·.a) (G.clks.set i c'))); unfold refs; rw [map_set' hi (congrArg V.ref ea)]; exact st h.cl (A.bk _ (mi0 (i := 6)) _ hx),
    st h.el (A.bk _ (mi0 (i := 7)) _ hx),
    fun r hr => ⟨st (h.rows r hr).ob (A.rk _ (mi1 hr) _ hx), st (h.rows r hr).tk (A.rk _ (mi1t hr) _ hx)⟩,
    fun g hg => ⟨st (h.jobs g hg).ob (A.jk _ (mi2 hg) _ hx), t _ _ (h.jobs g hg).st, t _ _ (h.jobs g hg).ne⟩,
    fun l hl => ⟨st (h.cnt l hl).ob (A.ck _ (mi3 hl) _ hx)⟩,
    fun x hx' => by
      rcases set_mem hx' with q | ⟨j, ji, q⟩
      · rw [q]
        exact ⟨by rw [ea]; exact upd_same, by rw [et, es]; exact t _ _ (h.clks c (List.mem_of_getElem? hi)).st⟩
      · have m := List.mem_of_getElem? q
        exact ⟨st (h.clks x m).ob (apart_ix A.k hi q ji), t _ _ (h.clks x m).st⟩,
    fun s hs => t _ _ (h.staff s hs),
    fun e he => (h.log e he).keep t,
    by
      have e : pa4 (G.clks.set i c') = pa4 G.clks := map_set' hi ea
      show (pa0 G ++ (pa1 G.rows ++ (pa2 G.jobs ++ (pa3 G.cnt ++ pa4 (G.clks.set i c'))))).Nodup
      rw [e]
      exact h.nd⟩

end
end LH
end

section
set_option Elab.async false
set_option linter.all false
set_option maxRecDepth 100000
set_option maxHeartbeats 4000000
namespace LH
open PySem PySem.Spec PyProof.Rows L2
def topS (i : Nat) : Stmt := PySem.Challenge.pw_laterhouse_k13_whole_none_waits_for_ever.main.body.getD i (.Pass ⟨0, 0, 0, 0⟩)
abbrev s__wall : Stmt := topS 0
abbrev s_BadPlan___init__ : Stmt := inClass (topS 3) 0
abbrev s_doubled : Stmt := topS 21
abbrev s_Job___init__ : Stmt := inClass (topS 22) 0
abbrev s_Job_kind : Stmt := inClass (topS 22) 1
abbrev s_Job_since : Stmt := inClass (topS 22) 2
abbrev s_Job_step_done : Stmt := inClass (topS 22) 3
abbrev s_Job_step_failed : Stmt := inClass (topS 22) 4
abbrev s_Job_let_go : Stmt := inClass (topS 22) 5
abbrev s_Job_alive_again : Stmt := inClass (topS 22) 6
abbrev s_Lease___init__ : Stmt := inClass (topS 23) 0
abbrev s_Lease_shown : Stmt := inClass (topS 23) 1
abbrev s_Clock___init__ : Stmt := inClass (topS 24) 0
abbrev s_Limits___init__ : Stmt := inClass (topS 27) 0
abbrev s_Limits_put : Stmt := inClass (topS 27) 1
abbrev s_Limits_begun : Stmt := inClass (topS 27) 2
abbrev s_Limits_over : Stmt := inClass (topS 27) 3
abbrev s_Limits_at_once : Stmt := inClass (topS 27) 4
abbrev s_Limits_lately : Stmt := inClass (topS 27) 5
abbrev s_Limits_has_room : Stmt := inClass (topS 27) 6
abbrev s_Limits_has_rate : Stmt := inClass (topS 27) 7
abbrev s_Limits_frees : Stmt := inClass (topS 27) 8
abbrev s_is_number : Stmt := topS 39
abbrev s_is_name : Stmt := topS 40
abbrev s_need_name : Stmt := topS 41
abbrev s_need_count : Stmt := topS 42
abbrev s_need_tick : Stmt := topS 43
abbrev s_is_kind : Stmt := topS 44
abbrev s_need_plan : Stmt := topS 45
abbrev s_need_rank : Stmt := topS 46
abbrev s_need_steps : Stmt := topS 47
abbrev s_need_needs : Stmt := topS 48
abbrev s_need_tries : Stmt := topS 49
abbrev s_House___init__ : Stmt := inClass (topS 59) 0
abbrev s_House_need_kind : Stmt := inClass (topS 59) 1
abbrev s_House_job : Stmt := inClass (topS 59) 2
abbrev s_House_need_worker : Stmt := inClass (topS 59) 3
abbrev s_House_lease : Stmt := inClass (topS 59) 4
abbrev s_House_note : Stmt := inClass (topS 59) 5
abbrev s_House_now : Stmt := inClass (topS 59) 6
abbrev s_House_add : Stmt := inClass (topS 59) 7
abbrev s_House_added : Stmt := inClass (topS 59) 8
abbrev s_House_clock : Stmt := inClass (topS 59) 9
abbrev s_House_join : Stmt := inClass (topS 59) 10
abbrev s_House_leave : Stmt := inClass (topS 59) 11
abbrev s_House_limit : Stmt := inClass (topS 59) 12
abbrev s_House_closed : Stmt := inClass (topS 59) 13
abbrev s_House_turn : Stmt := inClass (topS 59) 14
abbrev s_House_next_ticks : Stmt := inClass (topS 59) 15
abbrev s_House_strike : Stmt := inClass (topS 59) 16
abbrev s_House_missing : Stmt := inClass (topS 59) 17
abbrev s_House_lost_by : Stmt := inClass (topS 59) 18
abbrev s_House_is_ready : Stmt := inClass (topS 59) 19
abbrev s_House_rank_of : Stmt := inClass (topS 59) 20
abbrev s_House_turn_of : Stmt := inClass (topS 59) 21
abbrev s_House_order : Stmt := inClass (topS 59) 22
abbrev s_House_hands_of : Stmt := inClass (topS 59) 23
abbrev s_House_hindrance : Stmt := inClass (topS 59) 24
abbrev s_House_take : Stmt := inClass (topS 59) 25
abbrev s_House_why : Stmt := inClass (topS 59) 26
abbrev s_House_done : Stmt := inClass (topS 59) 27
abbrev s_House_fail : Stmt := inClass (topS 59) 28
abbrev s_House_beat : Stmt := inClass (topS 59) 29
abbrev s_House_tell : Stmt := inClass (topS 59) 30
abbrev s_House_drop : Stmt := inClass (topS 59) 31
abbrev s_House_again : Stmt := inClass (topS 59) 32
abbrev s_House_state : Stmt := inClass (topS 59) 33
abbrev s_House_progress : Stmt := inClass (topS 59) 34
abbrev s_House_queue : Stmt := inClass (topS 59) 35
abbrev s_House_limits_of : Stmt := inClass (topS 59) 36
abbrev s_House_leases : Stmt := inClass (topS 59) 37
abbrev s_House_workers : Stmt := inClass (topS 59) 38
abbrev s_House_next_due : Stmt := inClass (topS 59) 39
abbrev s_House_log : Stmt := inClass (topS 59) 40
abbrev s__law_begun : Stmt := topS 61
abbrev s__law_take : Stmt := topS 62
abbrev s__law_alike : Stmt := topS 63
abbrev s__law_taken_at : Stmt := topS 64
abbrev s__law_due : Stmt := topS 65
abbrev s_law : Stmt := topS 66
def d__wall : He.DefD := ⟨("_wall", none), "_wall", "_wall", defArgs s__wall, defBody s__wall, defScope s__wall, [], []⟩
def d_BadPlan___init__ : He.DefD := ⟨("BadPlan", some "__init__"), "__init__", "BadPlan.__init__", defArgs s_BadPlan___init__, defBody s_BadPlan___init__, defScope s_BadPlan___init__, [], []⟩
def d_doubled : He.DefD := ⟨("doubled", none), "doubled", "doubled", defArgs s_doubled, defBody s_doubled, defScope s_doubled, [], []⟩
def d_Job___init__ : He.DefD := ⟨("Job", some "__init__"), "__init__", "Job.__init__", defArgs s_Job___init__, defBody s_Job___init__, defScope s_Job___init__, [], []⟩
def d_Job_kind : He.DefD := ⟨("Job", some "kind"), "kind", "Job.kind", defArgs s_Job_kind, defBody s_Job_kind, defScope s_Job_kind, [], []⟩
def d_Job_since : He.DefD := ⟨("Job", some "since"), "since", "Job.since", defArgs s_Job_since, defBody s_Job_since, defScope s_Job_since, [], []⟩
def d_Job_step_done : He.DefD := ⟨("Job", some "step_done"), "step_done", "Job.step_done", defArgs s_Job_step_done, defBody s_Job_step_done, defScope s_Job_step_done, [], []⟩
def d_Job_step_failed : He.DefD := ⟨("Job", some "step_failed"), "step_failed", "Job.step_failed", defArgs s_Job_step_failed, defBody s_Job_step_failed, defScope s_Job_step_failed, [], []⟩
def d_Job_let_go : He.DefD := ⟨("Job", some "let_go"), "let_go", "Job.let_go", defArgs s_Job_let_go, defBody s_Job_let_go, defScope s_Job_let_go, [], []⟩
def d_Job_alive_again : He.DefD := ⟨("Job", some "alive_again"), "alive_again", "Job.alive_again", defArgs s_Job_alive_again, defBody s_Job_alive_again, defScope s_Job_alive_again, [], []⟩
def d_Lease___init__ : He.DefD := ⟨("Lease", some "__init__"), "__init__", "Lease.__init__", defArgs s_Lease___init__, defBody s_Lease___init__, defScope s_Lease___init__, [], []⟩
def d_Lease_shown : He.DefD := ⟨("Lease", some "shown"), "shown", "Lease.shown", defArgs s_Lease_shown, defBody s_Lease_shown, defScope s_Lease_shown, [], []⟩
def d_Clock___init__ : He.DefD := ⟨("Clock", some "__init__"), "__init__", "Clock.__init__", defArgs s_Clock___init__, defBody s_Clock___init__, defScope s_Clock___init__, [], []⟩
def d_Limits___init__ : He.DefD := ⟨("Limits", some "__init__"), "__init__", "Limits.__init__", defArgs s_Limits___init__, defBody s_Limits___init__, defScope s_Limits___init__, [], []⟩
def d_Limits_put : He.DefD := ⟨("Limits", some "put"), "put", "Limits.put", defArgs s_Limits_put, defBody s_Limits_put, defScope s_Limits_put, [], []⟩
def d_Limits_begun : He.DefD := ⟨("Limits", some "begun"), "begun", "Limits.begun", defArgs s_Limits_begun, defBody s_Limits_begun, defScope s_Limits_begun, [], []⟩
def d_Limits_over : He.DefD := ⟨("Limits", some "over"), "over", "Limits.over", defArgs s_Limits_over, defBody s_Limits_over, defScope s_Limits_over, [], []⟩
def d_Limits_at_once : He.DefD := ⟨("Limits", some "at_once"), "at_once", "Limits.at_once", defArgs s_Limits_at_once, defBody s_Limits_at_once, defScope s_Limits_at_once, [], []⟩
def d_Limits_lately : He.DefD := ⟨("Limits", some "lately"), "lately", "Limits.lately", defArgs s_Limits_lately, defBody s_Limits_lately, defScope s_Limits_lately, [], []⟩
def d_Limits_has_room : He.DefD := ⟨("Limits", some "has_room"), "has_room", "Limits.has_room", defArgs s_Limits_has_room, defBody s_Limits_has_room, defScope s_Limits_has_room, [], []⟩
def d_Limits_has_rate : He.DefD := ⟨("Limits", some "has_rate"), "has_rate", "Limits.has_rate", defArgs s_Limits_has_rate, defBody s_Limits_has_rate, defScope s_Limits_has_rate, [], []⟩
def d_Limits_frees : He.DefD := ⟨("Limits", some "frees"), "frees", "Limits.frees", defArgs s_Limits_frees, defBody s_Limits_frees, defScope s_Limits_frees, [], []⟩
def d_is_number : He.DefD := ⟨("is_number", none), "is_number", "is_number", defArgs s_is_number, defBody s_is_number, defScope s_is_number, [], []⟩
def d_is_name : He.DefD := ⟨("is_name", none), "is_name", "is_name", defArgs s_is_name, defBody s_is_name, defScope s_is_name, [], []⟩
def d_need_name : He.DefD := ⟨("need_name", none), "need_name", "need_name", defArgs s_need_name, defBody s_need_name, defScope s_need_name, [], []⟩
def d_need_count : He.DefD := ⟨("need_count", none), "need_count", "need_count", defArgs s_need_count, defBody s_need_count, defScope s_need_count, [], []⟩
def d_need_tick : He.DefD := ⟨("need_tick", none), "need_tick", "need_tick", defArgs s_need_tick, defBody s_need_tick, defScope s_need_tick, [], []⟩
def d_is_kind : He.DefD := ⟨("is_kind", none), "is_kind", "is_kind", defArgs s_is_kind, defBody s_is_kind, defScope s_is_kind, [], []⟩
def d_need_plan : He.DefD := ⟨("need_plan", none), "need_plan", "need_plan", defArgs s_need_plan, defBody s_need_plan, defScope s_need_plan, [], []⟩
def d_need_rank : He.DefD := ⟨("need_rank", none), "need_rank", "need_rank", defArgs s_need_rank, defBody s_need_rank, defScope s_need_rank, [], []⟩
def d_need_steps : He.DefD := ⟨("need_steps", none), "need_steps", "need_steps", defArgs s_need_steps, defBody s_need_steps, defScope s_need_steps, [], []⟩
def d_need_needs : He.DefD := ⟨("need_needs", none), "need_needs", "need_needs", defArgs s_need_needs, defBody s_need_needs, defScope s_need_needs, [], []⟩
def d_need_tries : He.DefD := ⟨("need_tries", none), "need_tries", "need_tries", defArgs s_need_tries, defBody s_need_tries, defScope s_need_tries, [], []⟩
def d_House___init__ : He.DefD := ⟨("House", some "__init__"), "__init__", "House.__init__", defArgs s_House___init__, defBody s_House___init__, defScope s_House___init__, [], [("hold", .int 10), ("pause", .int 2), ("hands", .int 1), ("age", .int 0)]⟩
def d_House_need_kind : He.DefD := ⟨("House", some "need_kind"), "need_kind", "House.need_kind", defArgs s_House_need_kind, defBody s_House_need_kind, defScope s_House_need_kind, [], []⟩
def d_House_job : He.DefD := ⟨("House", some "job"), "job", "House.job", defArgs s_House_job, defBody s_House_job, defScope s_House_job, [], []⟩
def d_House_need_worker : He.DefD := ⟨("House", some "need_worker"), "need_worker", "House.need_worker", defArgs s_House_need_worker, defBody s_House_need_worker, defScope s_House_need_worker, [], []⟩
def d_House_lease : He.DefD := ⟨("House", some "lease"), "lease", "House.lease", defArgs s_House_lease, defBody s_House_lease, defScope s_House_lease, [], []⟩
def d_House_note : He.DefD := ⟨("House", some "note"), "note", "House.note", defArgs s_House_note, defBody s_House_note, defScope s_House_note, [], []⟩
def d_House_now : He.DefD := ⟨("House", some "now"), "now", "House.now", defArgs s_House_now, defBody s_House_now, defScope s_House_now, [], []⟩
def d_House_add : He.DefD := ⟨("House", some "add"), "add", "House.add", defArgs s_House_add, defBody s_House_add, defScope s_House_add, [], [("tries", .int 3)]⟩
def d_House_added : He.DefD := ⟨("House", some "added"), "added", "House.added", defArgs s_House_added, defBody s_House_added, defScope s_House_added, [], []⟩
def d_House_clock : He.DefD := ⟨("House", some "clock"), "clock", "House.clock", defArgs s_House_clock, defBody s_House_clock, defScope s_House_clock, [], [("tries", .int 3)]⟩
def d_House_join : He.DefD := ⟨("House", some "join"), "join", "House.join", defArgs s_House_join, defBody s_House_join, defScope s_House_join, [], []⟩
def d_House_leave : He.DefD := ⟨("House", some "leave"), "leave", "House.leave", defArgs s_House_leave, defBody s_House_leave, defScope s_House_leave, [], []⟩
def d_House_limit : He.DefD := ⟨("House", some "limit"), "limit", "House.limit", defArgs s_House_limit, defBody s_House_limit, defScope s_House_limit, [], []⟩
def d_House_closed : He.DefD := ⟨("House", some "closed"), "closed", "House.closed", defArgs s_House_closed, defBody s_House_closed, defScope s_House_closed, [], []⟩
def d_House_turn : He.DefD := ⟨("House", some "turn"), "turn", "House.turn", defArgs s_House_turn, defBody s_House_turn, defScope s_House_turn, [], []⟩
def d_House_next_ticks : He.DefD := ⟨("House", some "next_ticks"), "next_ticks", "House.next_ticks", defArgs s_House_next_ticks, defBody s_House_next_ticks, defScope s_House_next_ticks, [], []⟩
def d_House_strike : He.DefD := ⟨("House", some "strike"), "strike", "House.strike", defArgs s_House_strike, defBody s_House_strike, defScope s_House_strike, [], []⟩
def d_House_missing : He.DefD := ⟨("House", some "missing"), "missing", "House.missing", defArgs s_House_missing, defBody s_House_missing, defScope s_House_missing, [], []⟩
def d_House_lost_by : He.DefD := ⟨("House", some "lost_by"), "lost_by", "House.lost_by", defArgs s_House_lost_by, defBody s_House_lost_by, defScope s_House_lost_by, [], []⟩
def d_House_is_ready : He.DefD := ⟨("House", some "is_ready"), "is_ready", "House.is_ready", defArgs s_House_is_ready, defBody s_House_is_ready, defScope s_House_is_ready, [], []⟩
def d_House_rank_of : He.DefD := ⟨("House", some "rank_of"), "rank_of", "House.rank_of", defArgs s_House_rank_of, defBody s_House_rank_of, defScope s_House_rank_of, [], []⟩
def d_House_turn_of : He.DefD := ⟨("House", some "turn_of"), "turn_of", "House.turn_of", defArgs s_House_turn_of, defBody s_House_turn_of, defScope s_House_turn_of, [], []⟩
def d_House_order : He.DefD := ⟨("House", some "order"), "order", "House.order", defArgs s_House_order, defBody s_House_order, defScope s_House_order, [], []⟩
def d_House_hands_of : He.DefD := ⟨("House", some "hands_of"), "hands_of", "House.hands_of", defArgs s_House_hands_of, defBody s_House_hands_of, defScope s_House_hands_of, [], []⟩
def d_House_hindrance : He.DefD := ⟨("House", some "hindrance"), "hindrance", "House.hindrance", defArgs s_House_hindrance, defBody s_House_hindrance, defScope s_House_hindrance, [], []⟩
def d_House_take : He.DefD := ⟨("House", some "take"), "take", "House.take", defArgs s_House_take, defBody s_House_take, defScope s_House_take, [], []⟩
def d_House_why : He.DefD := ⟨("House", some "why"), "why", "House.why", defArgs s_House_why, defBody s_House_why, defScope s_House_why, [], []⟩
def d_House_done : He.DefD := ⟨("House", some "done"), "done", "House.done", defArgs s_House_done, defBody s_House_done, defScope s_House_done, [], []⟩
def d_House_fail : He.DefD := ⟨("House", some "fail"), "fail", "House.fail", defArgs s_House_fail, defBody s_House_fail, defScope s_House_fail, [], []⟩
def d_House_beat : He.DefD := ⟨("House", some "beat"), "beat", "House.beat", defArgs s_House_beat, defBody s_House_beat, defScope s_House_beat, [], []⟩
def d_House_tell : He.DefD := ⟨("House", some "tell"), "tell", "House.tell", defArgs s_House_tell, defBody s_House_tell, defScope s_House_tell, [], []⟩
def d_House_drop : He.DefD := ⟨("House", some "drop"), "drop", "House.drop", defArgs s_House_drop, defBody s_House_drop, defScope s_House_drop, [], []⟩
def d_House_again : He.DefD := ⟨("House", some "again"), "again", "House.again", defArgs s_House_again, defBody s_House_again, defScope s_House_again, [], []⟩
def d_House_state : He.DefD := ⟨("House", some "state"), "state", "House.state", defArgs s_House_state, defBody s_House_state, defScope s_House_state, [], []⟩
def d_House_progress : He.DefD := ⟨("House", some "progress"), "progress", "House.progress", defArgs s_House_progress, defBody s_House_progress, defScope s_House_progress, [], []⟩
def d_House_queue : He.DefD := ⟨("House", some "queue"), "queue", "House.queue", defArgs s_House_queue, defBody s_House_queue, defScope s_House_queue, [], []⟩
def d_House_limits_of : He.DefD := ⟨("House", some "limits_of"), "limits_of", "House.limits_of", defArgs s_House_limits_of, defBody s_House_limits_of, defScope s_House_limits_of, [], []⟩
def d_House_leases : He.DefD := ⟨("House", some "leases"), "leases", "House.leases", defArgs s_House_leases, defBody s_House_leases, defScope s_House_leases, [], []⟩
def d_House_workers : He.DefD := ⟨("House", some "workers"), "workers", "House.workers", defArgs s_House_workers, defBody s_House_workers, defScope s_House_workers, [], []⟩
def d_House_next_due : He.DefD := ⟨("House", some "next_due"), "next_due", "House.next_due", defArgs s_House_next_due, defBody s_House_next_due, defScope s_House_next_due, [], []⟩
def d_House_log : He.DefD := ⟨("House", some "log"), "log", "House.log", defArgs s_House_log, defBody s_House_log, defScope s_House_log, [], []⟩
def d__law_begun : He.DefD := ⟨("_law_begun", none), "_law_begun", "_law_begun", defArgs s__law_begun, defBody s__law_begun, defScope s__law_begun, [], []⟩
def d__law_take : He.DefD := ⟨("_law_take", none), "_law_take", "_law_take", defArgs s__law_take, defBody s__law_take, defScope s__law_take, [], []⟩
def d__law_alike : He.DefD := ⟨("_law_alike", none), "_law_alike", "_law_alike", defArgs s__law_alike, defBody s__law_alike, defScope s__law_alike, [], []⟩
def d__law_taken_at : He.DefD := ⟨("_law_taken_at", none), "_law_taken_at", "_law_taken_at", defArgs s__law_taken_at, defBody s__law_taken_at, defScope s__law_taken_at, [], []⟩
def d__law_due : He.DefD := ⟨("_law_due", none), "_law_due", "_law_due", defArgs s__law_due, defBody s__law_due, defScope s__law_due, [], []⟩
def d_law : He.DefD := ⟨("law", none), "law", "law", defArgs s_law, defBody s_law, defScope s_law, [], []⟩
def fnL : List He.DefD := [d__wall, d_BadPlan___init__, d_doubled, d_Job___init__, d_Job_kind, d_Job_since, d_Job_step_done, d_Job_step_failed, d_Job_let_go, d_Job_alive_again, d_Lease___init__, d_Lease_shown, d_Clock___init__, d_Limits___init__, d_Limits_put, d_Limits_begun, d_Limits_over, d_Limits_at_once, d_Limits_lately, d_Limits_has_room, d_Limits_has_rate, d_Limits_frees, d_is_number, d_is_name, d_need_name, d_need_count, d_need_tick, d_is_kind, d_need_plan, d_need_rank, d_need_steps, d_need_needs, d_need_tries, d_House___init__, d_House_need_kind, d_House_job, d_House_need_worker, d_House_lease, d_House_note, d_House_now, d_House_add, d_House_added, d_House_clock, d_House_join, d_House_leave, d_House_limit, d_House_closed, d_House_turn, d_House_next_ticks, d_House_strike, d_House_missing, d_House_lost_by, d_House_is_ready, d_House_rank_of, d_House_turn_of, d_House_order, d_House_hands_of, d_House_hindrance, d_House_take, d_House_why, d_House_done, d_House_fail, d_House_beat, d_House_tell, d_House_drop, d_House_again, d_House_state, d_House_progress, d_House_queue, d_House_limits_of, d_House_leases, d_House_workers, d_House_next_due, d_House_log, d__law_begun, d__law_take, d__law_alike, d__law_taken_at, d__law_due, d_law]
def faL : List He.Fa := [.glo "_wall",
  .glo "LaterError",
  .glo "BadPlan",
  .glo "BadCount",
  .glo "BadTick",
  .glo "BadRank",
  .glo "BadSteps",
  .glo "BadNeeds",
  .glo "BadTries",
  .glo "BadPart",
  .glo "BadName",
  .glo "BadKinds",
  .glo "Taken",
  .glo "NoWorker",
  .glo "NoJob",
  .glo "NoLease",
  .str "DONE" "done",
  .str "DEAD" "dead",
  .int "MOST_WAIT" 999,
  .glo "doubled",
  .glo "Job",
  .glo "Lease",
  .glo "Clock",
  .int "WINDOW" 10,
  .glo "Limits",
  .str "LETTERS" "abcdefghijklmnopqrstuvwxyz",
  .int "MOST_LETTERS" 8,
  .int "MOST_KINDS" 6,
  .int "MOST_AT_ONCE" 9,
  .int "MOST_RATE" 99,
  .int "MOST_TICK" 99999,
  .int "MOST_RANK" 9,
  .int "MOST_STEPS" 5,
  .int "MOST_NEEDS" 6,
  .int "MOST_TRIES" 9,
  .glo "is_number",
  .glo "is_name",
  .glo "need_name",
  .glo "need_count",
  .glo "need_tick",
  .glo "is_kind",
  .glo "need_plan",
  .glo "need_rank",
  .glo "need_steps",
  .glo "need_needs",
  .glo "need_tries",
  .int "MOST_HOLD" 99,
  .int "MOST_HANDS" 9,
  .int "MOST_EVERY" 999,
  .int "MOST_SHARE" 100,
  .str "KIND" "kind",
  .str "MOST" "most",
  .str "RATE" "rate",
  .str "HANDS" "hands",
  .glo "House",
  .glo "_law_begun",
  .glo "_law_take",
  .glo "_law_alike",
  .glo "_law_taken_at",
  .glo "_law_due",
  .glo "law",
  .free "ValueError",
  .free "all",
  .free "bool",
  .free "enumerate",
  .free "int",
  .free "isinstance",
  .free "len",
  .free "list",
  .free "max",
  .free "min",
  .free "range",
  .free "set",
  .free "sorted",
  .free "str",
  .free "tuple",
  .exc "LaterError",
  .exm "BadPlan" "LaterError" true,
  .exc "BadCount",
  .exm "BadCount" "LaterError" true,
  .exc "BadTick",
  .exm "BadTick" "LaterError" true,
  .exc "BadRank",
  .exm "BadRank" "LaterError" true,
  .exc "BadSteps",
  .exm "BadSteps" "LaterError" true,
  .exc "BadNeeds",
  .exm "BadNeeds" "LaterError" true,
  .exc "BadTries",
  .exm "BadTries" "LaterError" true,
  .exc "BadPart",
  .exm "BadPart" "LaterError" true,
  .exc "BadName",
  .exm "BadName" "LaterError" true,
  .exc "BadKinds",
  .exm "BadKinds" "LaterError" true,
  .exc "Taken",
  .exm "Taken" "LaterError" true,
  .exc "NoWorker",
  .exm "NoWorker" "LaterError" true,
  .exc "NoJob",
  .exm "NoJob" "LaterError" true,
  .exc "NoLease",
  .exm "NoLease" "LaterError" true,
  .cls "Job",
  .noat "Job" "rank",
  .noat "Job" "until",
  .noat "Job" "steps",
  .noat "Job" "needed",
  .noat "Job" "most",
  .noat "Job" "done_steps",
  .noat "Job" "tries",
  .noat "Job" "share",
  .noat "Job" "ended",
  .noat "Job" "held",
  .noat "Job" "free_at",
  .meth "Job" "__init__",
  .meth "Job" "kind",
  .meth "Job" "since",
  .meth "Job" "step_done",
  .meth "Job" "step_failed",
  .meth "Job" "let_go",
  .meth "Job" "alive_again",
  .mkr "Job",
  .cls "Lease",
  .noat "Lease" "number",
  .noat "Lease" "work",
  .noat "Lease" "step",
  .noat "Lease" "worker",
  .noat "Lease" "until",
  .meth "Lease" "__init__",
  .meth "Lease" "shown",
  .mkr "Lease",
  .cls "Clock",
  .noat "Clock" "rank",
  .noat "Clock" "steps",
  .noat "Clock" "tries",
  .noat "Clock" "coming",
  .noat "Clock" "every",
  .noat "Clock" "left",
  .meth "Clock" "__init__",
  .mkr "Clock",
  .cls "Limits",
  .noat "Limits" "rows",
  .meth "Limits" "__init__",
  .meth "Limits" "put",
  .meth "Limits" "begun",
  .meth "Limits" "over",
  .meth "Limits" "at_once",
  .meth "Limits" "lately",
  .meth "Limits" "has_room",
  .meth "Limits" "has_rate",
  .meth "Limits" "frees",
  .mkr "Limits",
  .cls "House",
  .noat "House" "here",
  .noat "House" "limits",
  .noat "House" "jobs",
  .noat "House" "given",
  .noat "House" "counting",
  .noat "House" "staff",
  .noat "House" "clocks",
  .noat "House" "entries",
  .noat "House" "hold",
  .noat "House" "pause",
  .noat "House" "hands",
  .noat "House" "age",
  .meth "House" "__init__",
  .meth "House" "need_kind",
  .meth "House" "job",
  .meth "House" "need_worker",
  .meth "House" "lease",
  .meth "House" "note",
  .meth "House" "now",
  .meth "House" "add",
  .meth "House" "added",
  .meth "House" "clock",
  .meth "House" "join",
  .meth "House" "leave",
  .meth "House" "limit",
  .meth "House" "closed",
  .meth "House" "turn",
  .meth "House" "next_ticks",
  .meth "House" "strike",
  .meth "House" "missing",
  .meth "House" "lost_by",
  .meth "House" "is_ready",
  .meth "House" "rank_of",
  .meth "House" "turn_of",
  .meth "House" "order",
  .meth "House" "hands_of",
  .meth "House" "hindrance",
  .meth "House" "take",
  .meth "House" "why",
  .meth "House" "done",
  .meth "House" "fail",
  .meth "House" "beat",
  .meth "House" "tell",
  .meth "House" "drop",
  .meth "House" "again",
  .meth "House" "state",
  .meth "House" "progress",
  .meth "House" "queue",
  .meth "House" "limits_of",
  .meth "House" "leases",
  .meth "House" "workers",
  .meth "House" "next_due",
  .meth "House" "log",
  .mkr "House"]
def tfL : List He.Defn := [("House", some "turn"), ("House", some "order")]
/-- the tables, with the names of the code objects that they will tell -/
def TT (K : PySem.W.Frag) : List (Addr × Str) := [((He.cT K ("House", some "turn")).2, "House.turn.<locals>.<lambda>"), ((He.cT K ("House", some "order")).2, "House.order.<locals>.<lambda>")]
/-- what a walk may lean on -/
structure Tp (P : Program) (w : World) (K : PySem.W.Frag) (mg : Str → Option Value) (base : Heap) : Prop where
  c : He.SaysD faL fnL K
  glo : ∀ {x : Str}, (He.Fa.glo x).ok K = true → mg x = some (.ref (He.ga K x))
  free : ∀ {x : Str}, (He.Fa.free x).ok K = true → mg x = none
  int : ∀ {x : Str} {i : Int}, (He.Fa.int x i).ok K = true → ∃ t, mg x = some (.int i t)
  str : ∀ {x z : Str}, (He.Fa.str x z).ok K = true → ∃ t, mg x = some (.str z t)
  tab : ∀ p ∈ tfL, LamX.TabB base mg (He.cT K p).1 (He.cT K p).2
  uniq : (tfL.map fun p => (He.cT K p).2).Nodup
section
variable {P : Program} {w : World} {K : PySem.W.Frag} {mg : Str → Option Value} {base : Heap}
theorem Tp.g__wall (T : Tp P w K mg base) : mg "_wall" = some (.ref (He.ga K "_wall")) := T.glo (T.c.fact 0 (f := .glo "_wall") rfl)
theorem Tp.g_LaterError (T : Tp P w K mg base) : mg "LaterError" = some (.ref (He.ga K "LaterError")) := T.glo (T.c.fact 1 (f := .glo "LaterError") rfl)
theorem Tp.g_BadPlan (T : Tp P w K mg base) : mg "BadPlan" = some (.ref (He.ga K "BadPlan")) := T.glo (T.c.fact 2 (f := .glo "BadPlan") rfl)
theorem Tp.g_BadCount (T : Tp P w K mg base) : mg "BadCount" = some (.ref (He.ga K "BadCount")) := T.glo (T.c.fact 3 (f := .glo "BadCount") rfl)
theorem Tp.g_BadTick (T : Tp P w K mg base) : mg "BadTick" = some (.ref (He.ga K "BadTick")) := T.glo (T.c.fact 4 (f := .glo "BadTick") rfl)
theorem Tp.g_BadRank (T : Tp P w K mg base) : mg "BadRank" = some (.ref (He.ga K "BadRank")) := T.glo (T.c.fact 5 (f := .glo "BadRank") rfl)
theorem Tp.g_BadSteps (T : Tp P w K mg base) : mg "BadSteps" = some (.ref (He.ga K "BadSteps")) := T.glo (T.c.fact 6 (f := .glo "BadSteps") rfl)
theorem Tp.g_BadNeeds (T : Tp P w K mg base) : mg "BadNeeds" = some (.ref (He.ga K "BadNeeds")) := T.glo (T.c.fact 7 (f := .glo "BadNeeds") rfl)
theorem Tp.g_BadTries (T : Tp P w K mg base) : mg "BadTries" = some (.ref (He.ga K "BadTries")) := T.glo (T.c.fact 8 (f := .glo "BadTries") rfl)
theorem Tp.g_BadPart (T : Tp P w K mg base) : mg "BadPart" = some (.ref (He.ga K "BadPart")) := T.glo (T.c.fact 9 (f := .glo "BadPart") rfl)
theorem Tp.g_BadName (T : Tp P w K mg base) : mg "BadName" = some (.ref (He.ga K "BadName")) := T.glo (T.c.fact 10 (f := .glo "BadName") rfl)
theorem Tp.g_BadKinds (T : Tp P w K mg base) : mg "BadKinds" = some (.ref (He.ga K "BadKinds")) := T.glo (T.c.fact 11 (f := .glo "BadKinds") rfl)
theorem Tp.g_Taken (T : Tp P w K mg base) : mg "Taken" = some (.ref (He.ga K "Taken")) := T.glo (T.c.fact 12 (f := .glo "Taken") rfl)
theorem Tp.g_NoWorker (T : Tp P w K mg base) : mg "NoWorker" = some (.ref (He.ga K "NoWorker")) := T.glo (T.c.fact 13 (f := .glo "NoWorker") rfl)
theorem Tp.g_NoJob (T : Tp P w K mg base) : mg "NoJob" = some (.ref (He.ga K "NoJob")) := T.glo (T.c.fact 14 (f := .glo "NoJob") rfl)
theorem Tp.g_NoLease (T : Tp P w K mg base) : mg "NoLease" = some (.ref (He.ga K "NoLease")) := T.glo (T.c.fact 15 (f := .glo "NoLease") rfl)
theorem Tp.v_DONE (T : Tp P w K mg base) : ∃ t, mg "DONE" = some (.str "done" t) := T.str (T.c.fact 16 (f := .str "DONE" "done") rfl)
theorem Tp.v_DEAD (T : Tp P w K mg base) : ∃ t, mg "DEAD" = some (.str "dead" t) := T.str (T.c.fact 17 (f := .str "DEAD" "dead") rfl)
theorem Tp.v_MOST_WAIT (T : Tp P w K mg base) : ∃ t, mg "MOST_WAIT" = some (.int 999 t) := T.int (T.c.fact 18 (f := .int "MOST_WAIT" 999) rfl)
theorem Tp.g_doubled (T : Tp P w K mg base) : mg "doubled" = some (.ref (He.ga K "doubled")) := T.glo (T.c.fact 19 (f := .glo "doubled") rfl)
theorem Tp.g_Job (T : Tp P w K mg base) : mg "Job" = some (.ref (He.ga K "Job")) := T.glo (T.c.fact 20 (f := .glo "Job") rfl)
theorem Tp.g_Lease (T : Tp P w K mg base) : mg "Lease" = some (.ref (He.ga K "Lease")) := T.glo (T.c.fact 21 (f := .glo "Lease") rfl)
theorem Tp.g_Clock (T : Tp P w K mg base) : mg "Clock" = some (.ref (He.ga K "Clock")) := T.glo (T.c.fact 22 (f := .glo "Clock") rfl)
theorem Tp.v_WINDOW (T : Tp P w K mg base) : ∃ t, mg "WINDOW" = some (.int 10 t) := T.int (T.c.fact 23 (f := .int "WINDOW" 10) rfl)
theorem Tp.g_Limits (T : Tp P w K mg base) : mg "Limits" = some (.ref (He.ga K "Limits")) := T.glo (T.c.fact 24 (f := .glo "Limits") rfl)
theorem Tp.v_LETTERS (T : Tp P w K mg base) : ∃ t, mg "LETTERS" = some (.str "abcdefghijklmnopqrstuvwxyz" t) := T.str (T.c.fact 25 (f := .str "LETTERS" "abcdefghijklmnopqrstuvwxyz") rfl)
theorem Tp.v_MOST_LETTERS (T : Tp P w K mg base) : ∃ t, mg "MOST_LETTERS" = some (.int 8 t) := T.int (T.c.fact 26 (f := .int "MOST_LETTERS" 8) rfl)
theorem Tp.v_MOST_KINDS (T : Tp P w K mg base) : ∃ t, mg "MOST_KINDS" = some (.int 6 t) := T.int (T.c.fact 27 (f := .int "MOST_KINDS" 6) rfl)
theorem Tp.v_MOST_AT_ONCE (T : Tp P w K mg base) : ∃ t, mg "MOST_AT_ONCE" = some (.int 9 t) := T.int (T.c.fact 28 (f := .int "MOST_AT_ONCE" 9) rfl)
theorem Tp.v_MOST_RATE (T : Tp P w K mg base) : ∃ t, mg "MOST_RATE" = some (.int 99 t) := T.int (T.c.fact 29 (f := .int "MOST_RATE" 99) rfl)
theorem Tp.v_MOST_TICK (T : Tp P w K mg base) : ∃ t, mg "MOST_TICK" = some (.int 99999 t) := T.int (T.c.fact 30 (f := .int "MOST_TICK" 99999) rfl)
theorem Tp.v_MOST_RANK (T : Tp P w K mg base) : ∃ t, mg "MOST_RANK" = some (.int 9 t) := T.int (T.c.fact 31 (f := .int "MOST_RANK" 9) rfl)
theorem Tp.v_MOST_STEPS (T : Tp P w K mg base) : ∃ t, mg "MOST_STEPS" = some (.int 5 t) := T.int (T.c.fact 32 (f := .int "MOST_STEPS" 5) rfl)
theorem Tp.v_MOST_NEEDS (T : Tp P w K mg base) : ∃ t, mg "MOST_NEEDS" = some (.int 6 t) := T.int (T.c.fact 33 (f := .int "MOST_NEEDS" 6) rfl)
theorem Tp.v_MOST_TRIES (T : Tp P w K mg base) : ∃ t, mg "MOST_TRIES" = some (.int 9 t) := T.int (T.c.fact 34 (f := .int "MOST_TRIES" 9) rfl)
theorem Tp.g_is_number (T : Tp P w K mg base) : mg "is_number" = some (.ref (He.ga K "is_number")) := T.glo (T.c.fact 35 (f := .glo "is_number") rfl)
theorem Tp.g_is_name (T : Tp P w K mg base) : mg "is_name" = some (.ref (He.ga K "is_name")) := T.glo (T.c.fact 36 (f := .glo "is_name") rfl)
theorem Tp.g_need_name (T : Tp P w K mg base) : mg "need_name" = some (.ref (He.ga K "need_name")) := T.glo (T.c.fact 37 (f := .glo "need_name") rfl)
theorem Tp.g_need_count (T : Tp P w K mg base) : mg "need_count" = some (.ref (He.ga K "need_count")) := T.glo (T.c.fact 38 (f := .glo "need_count") rfl)
theorem Tp.g_need_tick (T : Tp P w K mg base) : mg "need_tick" = some (.ref (He.ga K "need_tick")) := T.glo (T.c.fact 39 (f := .glo "need_tick") rfl)
theorem Tp.g_is_kind (T : Tp P w K mg base) : mg "is_kind" = some (.ref (He.ga K "is_kind")) := T.glo (T.c.fact 40 (f := .glo "is_kind") rfl)
theorem Tp.g_need_plan (T : Tp P w K mg base) : mg "need_plan" = some (.ref (He.ga K "need_plan")) := T.glo (T.c.fact 41 (f := .glo "need_plan") rfl)
theorem Tp.g_need_rank (T : Tp P w K mg base) : mg "need_rank" = some (.ref (He.ga K "need_rank")) := T.glo (T.c.fact 42 (f := .glo "need_rank") rfl)
theorem Tp.g_need_steps (T : Tp P w K mg base) : mg "need_steps" = some (.ref (He.ga K "need_steps")) := T.glo (T.c.fact 43 (f := .glo "need_steps") rfl)
theorem Tp.g_need_needs (T : Tp P w K mg base) : mg "need_needs" = some (.ref (He.ga K "need_needs")) := T.glo (T.c.fact 44 (f := .glo "need_needs") rfl)
theorem Tp.g_need_tries (T : Tp P w K mg base) : mg "need_tries" = some (.ref (He.ga K "need_tries")) := T.glo (T.c.fact 45 (f := .glo "need_tries") rfl)
theorem Tp.v_MOST_HOLD (T : Tp P w K mg base) : ∃ t, mg "MOST_HOLD" = some (.int 99 t) := T.int (T.c.fact 46 (f := .int "MOST_HOLD" 99) rfl)
theorem Tp.v_MOST_HANDS (T : Tp P w K mg base) : ∃ t, mg "MOST_HANDS" = some (.int 9 t) := T.int (T.c.fact 47 (f := .int "MOST_HANDS" 9) rfl)
theorem Tp.v_MOST_EVERY (T : Tp P w K mg base) : ∃ t, mg "MOST_EVERY" = some (.int 999 t) := T.int (T.c.fact 48 (f := .int "MOST_EVERY" 999) rfl)
theorem Tp.v_MOST_SHARE (T : Tp P w K mg base) : ∃ t, mg "MOST_SHARE" = some (.int 100 t) := T.int (T.c.fact 49 (f := .int "MOST_SHARE" 100) rfl)
theorem Tp.v_KIND (T : Tp P w K mg base) : ∃ t, mg "KIND" = some (.str "kind" t) := T.str (T.c.fact 50 (f := .str "KIND" "kind") rfl)
theorem Tp.v_MOST (T : Tp P w K mg base) : ∃ t, mg "MOST" = some (.str "most" t) := T.str (T.c.fact 51 (f := .str "MOST" "most") rfl)
theorem Tp.v_RATE (T : Tp P w K mg base) : ∃ t, mg "RATE" = some (.str "rate" t) := T.str (T.c.fact 52 (f := .str "RATE" "rate") rfl)
theorem Tp.v_HANDS (T : Tp P w K mg base) : ∃ t, mg "HANDS" = some (.str "hands" t) := T.str (T.c.fact 53 (f := .str "HANDS" "hands") rfl)
theorem Tp.g_House (T : Tp P w K mg base) : mg "House" = some (.ref (He.ga K "House")) := T.glo (T.c.fact 54 (f := .glo "House") rfl)
theorem Tp.g__law_begun (T : Tp P w K mg base) : mg "_law_begun" = some (.ref (He.ga K "_law_begun")) := T.glo (T.c.fact 55 (f := .glo "_law_begun") rfl)
theorem Tp.g__law_take (T : Tp P w K mg base) : mg "_law_take" = some (.ref (He.ga K "_law_take")) := T.glo (T.c.fact 56 (f := .glo "_law_take") rfl)
theorem Tp.g__law_alike (T : Tp P w K mg base) : mg "_law_alike" = some (.ref (He.ga K "_law_alike")) := T.glo (T.c.fact 57 (f := .glo "_law_alike") rfl)
theorem Tp.g__law_taken_at (T : Tp P w K mg base) : mg "_law_taken_at" = some (.ref (He.ga K "_law_taken_at")) := T.glo (T.c.fact 58 (f := .glo "_law_taken_at") rfl)
theorem Tp.g__law_due (T : Tp P w K mg base) : mg "_law_due" = some (.ref (He.ga K "_law_due")) := T.glo (T.c.fact 59 (f := .glo "_law_due") rfl)
theorem Tp.g_law (T : Tp P w K mg base) : mg "law" = some (.ref (He.ga K "law")) := T.glo (T.c.fact 60 (f := .glo "law") rfl)
theorem Tp.f_ValueError (T : Tp P w K mg base) : mg "ValueError" = none := T.free (T.c.fact 61 (f := .free "ValueError") rfl)
theorem Tp.f_all (T : Tp P w K mg base) : mg "all" = none := T.free (T.c.fact 62 (f := .free "all") rfl)
theorem Tp.f_bool (T : Tp P w K mg base) : mg "bool" = none := T.free (T.c.fact 63 (f := .free "bool") rfl)
theorem Tp.f_enumerate (T : Tp P w K mg base) : mg "enumerate" = none := T.free (T.c.fact 64 (f := .free "enumerate") rfl)
theorem Tp.f_int (T : Tp P w K mg base) : mg "int" = none := T.free (T.c.fact 65 (f := .free "int") rfl)
theorem Tp.f_isinstance (T : Tp P w K mg base) : mg "isinstance" = none := T.free (T.c.fact 66 (f := .free "isinstance") rfl)
theorem Tp.f_len (T : Tp P w K mg base) : mg "len" = none := T.free (T.c.fact 67 (f := .free "len") rfl)
theorem Tp.f_list (T : Tp P w K mg base) : mg "list" = none := T.free (T.c.fact 68 (f := .free "list") rfl)
theorem Tp.f_max (T : Tp P w K mg base) : mg "max" = none := T.free (T.c.fact 69 (f := .free "max") rfl)
theorem Tp.f_min (T : Tp P w K mg base) : mg "min" = none := T.free (T.c.fact 70 (f := .free "min") rfl)
theorem Tp.f_range (T : Tp P w K mg base) : mg "range" = none := T.free (T.c.fact 71 (f := .free "range") rfl)
theorem Tp.f_set (T : Tp P w K mg base) : mg "set" = none := T.free (T.c.fact 72 (f := .free "set") rfl)
theorem Tp.f_sorted (T : Tp P w K mg base) : mg "sorted" = none := T.free (T.c.fact 73 (f := .free "sorted") rfl)
theorem Tp.f_str (T : Tp P w K mg base) : mg "str" = none := T.free (T.c.fact 74 (f := .free "str") rfl)
theorem Tp.f_tuple (T : Tp P w K mg base) : mg "tuple" = none := T.free (T.c.fact 75 (f := .free "tuple") rfl)
theorem Tp.x_LaterError (T : Tp P w K mg base) : PySem.W.excIn K (He.ga K "LaterError") He.veBase "ValueError.__new__" = true ∧ PySem.W.keepIn K (.ref (He.ga K "LaterError")) = true ∧ PySem.W.subIn K (.ref (He.ga K "LaterError")) (.type "BaseException") = some true ∧ PySem.W.typeIn K (.ref (He.ga K "LaterError")) = some (.type "type") := He.exc_ok (T.c.fact 76 (f := .exc "LaterError") rfl)
theorem Tp.e_BadPlan (T : Tp P w K mg base) : PySem.W.exmOne K (.ref (He.ga K "BadPlan")) (.ref (He.ga K "LaterError")) = some true := He.exm_ok (T.c.fact 77 (f := .exm "BadPlan" "LaterError" true) rfl)
theorem Tp.x_BadCount (T : Tp P w K mg base) : PySem.W.excIn K (He.ga K "BadCount") He.veBase "ValueError.__new__" = true ∧ PySem.W.keepIn K (.ref (He.ga K "BadCount")) = true ∧ PySem.W.subIn K (.ref (He.ga K "BadCount")) (.type "BaseException") = some true ∧ PySem.W.typeIn K (.ref (He.ga K "BadCount")) = some (.type "type") := He.exc_ok (T.c.fact 78 (f := .exc "BadCount") rfl)
theorem Tp.e_BadCount (T : Tp P w K mg base) : PySem.W.exmOne K (.ref (He.ga K "BadCount")) (.ref (He.ga K "LaterError")) = some true := He.exm_ok (T.c.fact 79 (f := .exm "BadCount" "LaterError" true) rfl)
theorem Tp.x_BadTick (T : Tp P w K mg base) : PySem.W.excIn K (He.ga K "BadTick") He.veBase "ValueError.__new__" = true ∧ PySem.W.keepIn K (.ref (He.ga K "BadTick")) = true ∧ PySem.W.subIn K (.ref (He.ga K "BadTick")) (.type "BaseException") = some true ∧ PySem.W.typeIn K (.ref (He.ga K "BadTick")) = some (.type "type") := He.exc_ok (T.c.fact 80 (f := .exc "BadTick") rfl)
theorem Tp.e_BadTick (T : Tp P w K mg base) : PySem.W.exmOne K (.ref (He.ga K "BadTick")) (.ref (He.ga K "LaterError")) = some true := He.exm_ok (T.c.fact 81 (f := .exm "BadTick" "LaterError" true) rfl)
theorem Tp.x_BadRank (T : Tp P w K mg base) : PySem.W.excIn K (He.ga K "BadRank") He.veBase "ValueError.__new__" = true ∧ PySem.W.keepIn K (.ref (He.ga K "BadRank")) = true ∧ PySem.W.subIn K (.ref (He.ga K "BadRank")) (.type "BaseException") = some true ∧ PySem.W.typeIn K (.ref (He.ga K "BadRank")) = some (.type "type") := He.exc_ok (T.c.fact 82 (f := .exc "BadRank") rfl)
theorem Tp.e_BadRank (T : Tp P w K mg base) : PySem.W.exmOne K (.ref (He.ga K "BadRank")) (.ref (He.ga K "LaterError")) = some true := He.exm_ok (T.c.fact 83 (f := .exm "BadRank" "LaterError" true) rfl)
theorem Tp.x_BadSteps (T : Tp P w K mg base) : PySem.W.excIn K (He.ga K "BadSteps") He.veBase "ValueError.__new__" = true ∧ PySem.W.keepIn K (.ref (He.ga K "BadSteps")) = true ∧ PySem.W.subIn K (.ref (He.ga K "BadSteps")) (.type "BaseException") = some true ∧ PySem.W.typeIn K (.ref (He.ga K "BadSteps")) = some (.type "type") := He.exc_ok (T.c.fact 84 (f := .exc "BadSteps") rfl)
theorem Tp.e_BadSteps (T : Tp P w K mg base) : PySem.W.exmOne K (.ref (He.ga K "BadSteps")) (.ref (He.ga K "LaterError")) = some true := He.exm_ok (T.c.fact 85 (f := .exm "BadSteps" "LaterError" true) rfl)
theorem Tp.x_BadNeeds (T : Tp P w K mg base) : PySem.W.excIn K (He.ga K "BadNeeds") He.veBase "ValueError.__new__" = true ∧ PySem.W.keepIn K (.ref (He.ga K "BadNeeds")) = true ∧ PySem.W.subIn K (.ref (He.ga K "BadNeeds")) (.type "BaseException") = some true ∧ PySem.W.typeIn K (.ref (He.ga K "BadNeeds")) = some (.type "type") := He.exc_ok (T.c.fact 86 (f := .exc "BadNeeds") rfl)
theorem Tp.e_BadNeeds (T : Tp P w K mg base) : PySem.W.exmOne K (.ref (He.ga K "BadNeeds")) (.ref (He.ga K "LaterError")) = some true := He.exm_ok (T.c.fact 87 (f := .exm "BadNeeds" "LaterError" true) rfl)
theorem Tp.x_BadTries (T : Tp P w K mg base) : PySem.W.excIn K (He.ga K "BadTries") He.veBase "ValueError.__new__" = true ∧ PySem.W.keepIn K (.ref (He.ga K "BadTries")) = true ∧ PySem.W.subIn K (.ref (He.ga K "BadTries")) (.type "BaseException") = some true ∧ PySem.W.typeIn K (.ref (He.ga K "BadTries")) = some (.type "type") := He.exc_ok (T.c.fact 88 (f := .exc "BadTries") rfl)
theorem Tp.e_BadTries (T : Tp P w K mg base) : PySem.W.exmOne K (.ref (He.ga K "BadTries")) (.ref (He.ga K "LaterError")) = some true := He.exm_ok (T.c.fact 89 (f := .exm "BadTries" "LaterError" true) rfl)
theorem Tp.x_BadPart (T : Tp P w K mg base) : PySem.W.excIn K (He.ga K "BadPart") He.veBase "ValueError.__new__" = true ∧ PySem.W.keepIn K (.ref (He.ga K "BadPart")) = true ∧ PySem.W.subIn K (.ref (He.ga K "BadPart")) (.type "BaseException") = some true ∧ PySem.W.typeIn K (.ref (He.ga K "BadPart")) = some (.type "type") := He.exc_ok (T.c.fact 90 (f := .exc "BadPart") rfl)
theorem Tp.e_BadPart (T : Tp P w K mg base) : PySem.W.exmOne K (.ref (He.ga K "BadPart")) (.ref (He.ga K "LaterError")) = some true := He.exm_ok (T.c.fact 91 (f := .exm "BadPart" "LaterError" true) rfl)
theorem Tp.x_BadName (T : Tp P w K mg base) : PySem.W.excIn K (He.ga K "BadName") He.veBase "ValueError.__new__" = true ∧ PySem.W.keepIn K (.ref (He.ga K "BadName")) = true ∧ PySem.W.subIn K (.ref (He.ga K "BadName")) (.type "BaseException") = some true ∧ PySem.W.typeIn K (.ref (He.ga K "BadName")) = some (.type "type") := He.exc_ok (T.c.fact 92 (f := .exc "BadName") rfl)
theorem Tp.e_BadName (T : Tp P w K mg base) : PySem.W.exmOne K (.ref (He.ga K "BadName")) (.ref (He.ga K "LaterError")) = some true := He.exm_ok (T.c.fact 93 (f := .exm "BadName" "LaterError" true) rfl)
theorem Tp.x_BadKinds (T : Tp P w K mg base) : PySem.W.excIn K (He.ga K "BadKinds") He.veBase "ValueError.__new__" = true ∧ PySem.W.keepIn K (.ref (He.ga K "BadKinds")) = true ∧ PySem.W.subIn K (.ref (He.ga K "BadKinds")) (.type "BaseException") = some true ∧ PySem.W.typeIn K (.ref (He.ga K "BadKinds")) = some (.type "type") := He.exc_ok (T.c.fact 94 (f := .exc "BadKinds") rfl)
theorem Tp.e_BadKinds (T : Tp P w K mg base) : PySem.W.exmOne K (.ref (He.ga K "BadKinds")) (.ref (He.ga K "LaterError")) = some true := He.exm_ok (T.c.fact 95 (f := .exm "BadKinds" "LaterError" true) rfl)
theorem Tp.x_Taken (T : Tp P w K mg base) : PySem.W.excIn K (He.ga K "Taken") He.veBase "ValueError.__new__" = true ∧ PySem.W.keepIn K (.ref (He.ga K "Taken")) = true ∧ PySem.W.subIn K (.ref (He.ga K "Taken")) (.type "BaseException") = some true ∧ PySem.W.typeIn K (.ref (He.ga K "Taken")) = some (.type "type") := He.exc_ok (T.c.fact 96 (f := .exc "Taken") rfl)
theorem Tp.e_Taken (T : Tp P w K mg base) : PySem.W.exmOne K (.ref (He.ga K "Taken")) (.ref (He.ga K "LaterError")) = some true := He.exm_ok (T.c.fact 97 (f := .exm "Taken" "LaterError" true) rfl)
theorem Tp.x_NoWorker (T : Tp P w K mg base) : PySem.W.excIn K (He.ga K "NoWorker") He.veBase "ValueError.__new__" = true ∧ PySem.W.keepIn K (.ref (He.ga K "NoWorker")) = true ∧ PySem.W.subIn K (.ref (He.ga K "NoWorker")) (.type "BaseException") = some true ∧ PySem.W.typeIn K (.ref (He.ga K "NoWorker")) = some (.type "type") := He.exc_ok (T.c.fact 98 (f := .exc "NoWorker") rfl)
theorem Tp.e_NoWorker (T : Tp P w K mg base) : PySem.W.exmOne K (.ref (He.ga K "NoWorker")) (.ref (He.ga K "LaterError")) = some true := He.exm_ok (T.c.fact 99 (f := .exm "NoWorker" "LaterError" true) rfl)
theorem Tp.x_NoJob (T : Tp P w K mg base) : PySem.W.excIn K (He.ga K "NoJob") He.veBase "ValueError.__new__" = true ∧ PySem.W.keepIn K (.ref (He.ga K "NoJob")) = true ∧ PySem.W.subIn K (.ref (He.ga K "NoJob")) (.type "BaseException") = some true ∧ PySem.W.typeIn K (.ref (He.ga K "NoJob")) = some (.type "type") := He.exc_ok (T.c.fact 100 (f := .exc "NoJob") rfl)
theorem Tp.e_NoJob (T : Tp P w K mg base) : PySem.W.exmOne K (.ref (He.ga K "NoJob")) (.ref (He.ga K "LaterError")) = some true := He.exm_ok (T.c.fact 101 (f := .exm "NoJob" "LaterError" true) rfl)
theorem Tp.x_NoLease (T : Tp P w K mg base) : PySem.W.excIn K (He.ga K "NoLease") He.veBase "ValueError.__new__" = true ∧ PySem.W.keepIn K (.ref (He.ga K "NoLease")) = true ∧ PySem.W.subIn K (.ref (He.ga K "NoLease")) (.type "BaseException") = some true ∧ PySem.W.typeIn K (.ref (He.ga K "NoLease")) = some (.type "type") := He.exc_ok (T.c.fact 102 (f := .exc "NoLease") rfl)
theorem Tp.e_NoLease (T : Tp P w K mg base) : PySem.W.exmOne K (.ref (He.ga K "NoLease")) (.ref (He.ga K "LaterError")) = some true := He.exm_ok (T.c.fact 103 (f := .exm "NoLease" "LaterError" true) rfl)
theorem Tp.c_Job (T : Tp P w K mg base) : Cls K (He.ga K "Job") := He.cls_ok (T.c.fact 104 (f := .cls "Job") rfl)
theorem Tp.n_Job_rank (T : Tp P w K mg base) : NoAttr K (He.ga K "Job") "rank" := He.noat_ok (T.c.fact 105 (f := .noat "Job" "rank") rfl)
theorem Tp.n_Job_until (T : Tp P w K mg base) : NoAttr K (He.ga K "Job") "until" := He.noat_ok (T.c.fact 106 (f := .noat "Job" "until") rfl)
theorem Tp.n_Job_steps (T : Tp P w K mg base) : NoAttr K (He.ga K "Job") "steps" := He.noat_ok (T.c.fact 107 (f := .noat "Job" "steps") rfl)
theorem Tp.n_Job_needed (T : Tp P w K mg base) : NoAttr K (He.ga K "Job") "needed" := He.noat_ok (T.c.fact 108 (f := .noat "Job" "needed") rfl)
theorem Tp.n_Job_most (T : Tp P w K mg base) : NoAttr K (He.ga K "Job") "most" := He.noat_ok (T.c.fact 109 (f := .noat "Job" "most") rfl)
theorem Tp.n_Job_done_steps (T : Tp P w K mg base) : NoAttr K (He.ga K "Job") "done_steps" := He.noat_ok (T.c.fact 110 (f := .noat "Job" "done_steps") rfl)
theorem Tp.n_Job_tries (T : Tp P w K mg base) : NoAttr K (He.ga K "Job") "tries" := He.noat_ok (T.c.fact 111 (f := .noat "Job" "tries") rfl)
theorem Tp.n_Job_share (T : Tp P w K mg base) : NoAttr K (He.ga K "Job") "share" := He.noat_ok (T.c.fact 112 (f := .noat "Job" "share") rfl)
theorem Tp.n_Job_ended (T : Tp P w K mg base) : NoAttr K (He.ga K "Job") "ended" := He.noat_ok (T.c.fact 113 (f := .noat "Job" "ended") rfl)
theorem Tp.n_Job_held (T : Tp P w K mg base) : NoAttr K (He.ga K "Job") "held" := He.noat_ok (T.c.fact 114 (f := .noat "Job" "held") rfl)
theorem Tp.n_Job_free_at (T : Tp P w K mg base) : NoAttr K (He.ga K "Job") "free_at" := He.noat_ok (T.c.fact 115 (f := .noat "Job" "free_at") rfl)
theorem Tp.m_Job___init__ (T : Tp P w K mg base) : Meth K (He.ga K "Job") "__init__" (He.ma K (He.ga K "Job") "__init__") := He.meth_ok (T.c.fact 116 (f := .meth "Job" "__init__") rfl)
theorem Tp.m_Job_kind (T : Tp P w K mg base) : Meth K (He.ga K "Job") "kind" (He.ma K (He.ga K "Job") "kind") := He.meth_ok (T.c.fact 117 (f := .meth "Job" "kind") rfl)
theorem Tp.m_Job_since (T : Tp P w K mg base) : Meth K (He.ga K "Job") "since" (He.ma K (He.ga K "Job") "since") := He.meth_ok (T.c.fact 118 (f := .meth "Job" "since") rfl)
theorem Tp.m_Job_step_done (T : Tp P w K mg base) : Meth K (He.ga K "Job") "step_done" (He.ma K (He.ga K "Job") "step_done") := He.meth_ok (T.c.fact 119 (f := .meth "Job" "step_done") rfl)
theorem Tp.m_Job_step_failed (T : Tp P w K mg base) : Meth K (He.ga K "Job") "step_failed" (He.ma K (He.ga K "Job") "step_failed") := He.meth_ok (T.c.fact 120 (f := .meth "Job" "step_failed") rfl)
theorem Tp.m_Job_let_go (T : Tp P w K mg base) : Meth K (He.ga K "Job") "let_go" (He.ma K (He.ga K "Job") "let_go") := He.meth_ok (T.c.fact 121 (f := .meth "Job" "let_go") rfl)
theorem Tp.m_Job_alive_again (T : Tp P w K mg base) : Meth K (He.ga K "Job") "alive_again" (He.ma K (He.ga K "Job") "alive_again") := He.meth_ok (T.c.fact 122 (f := .meth "Job" "alive_again") rfl)
theorem Tp.mk_Job (T : Tp P w K mg base) : Mk K (He.ga K "Job") (He.ma K (He.ga K "Job") "__init__") := He.mkr_ok (T.c.fact 123 (f := .mkr "Job") rfl)
theorem Tp.c_Lease (T : Tp P w K mg base) : Cls K (He.ga K "Lease") := He.cls_ok (T.c.fact 124 (f := .cls "Lease") rfl)
theorem Tp.n_Lease_number (T : Tp P w K mg base) : NoAttr K (He.ga K "Lease") "number" := He.noat_ok (T.c.fact 125 (f := .noat "Lease" "number") rfl)
theorem Tp.n_Lease_work (T : Tp P w K mg base) : NoAttr K (He.ga K "Lease") "work" := He.noat_ok (T.c.fact 126 (f := .noat "Lease" "work") rfl)
theorem Tp.n_Lease_step (T : Tp P w K mg base) : NoAttr K (He.ga K "Lease") "step" := He.noat_ok (T.c.fact 127 (f := .noat "Lease" "step") rfl)
theorem Tp.n_Lease_worker (T : Tp P w K mg base) : NoAttr K (He.ga K "Lease") "worker" := He.noat_ok (T.c.fact 128 (f := .noat "Lease" "worker") rfl)
theorem Tp.n_Lease_until (T : Tp P w K mg base) : NoAttr K (He.ga K "Lease") "until" := He.noat_ok (T.c.fact 129 (f := .noat "Lease" "until") rfl)
theorem Tp.m_Lease___init__ (T : Tp P w K mg base) : Meth K (He.ga K "Lease") "__init__" (He.ma K (He.ga K "Lease") "__init__") := He.meth_ok (T.c.fact 130 (f := .meth "Lease" "__init__") rfl)
theorem Tp.m_Lease_shown (T : Tp P w K mg base) : Meth K (He.ga K "Lease") "shown" (He.ma K (He.ga K "Lease") "shown") := He.meth_ok (T.c.fact 131 (f := .meth "Lease" "shown") rfl)
theorem Tp.mk_Lease (T : Tp P w K mg base) : Mk K (He.ga K "Lease") (He.ma K (He.ga K "Lease") "__init__") := He.mkr_ok (T.c.fact 132 (f := .mkr "Lease") rfl)
theorem Tp.c_Clock (T : Tp P w K mg base) : Cls K (He.ga K "Clock") := He.cls_ok (T.c.fact 133 (f := .cls "Clock") rfl)
theorem Tp.n_Clock_rank (T : Tp P w K mg base) : NoAttr K (He.ga K "Clock") "rank" := He.noat_ok (T.c.fact 134 (f := .noat "Clock" "rank") rfl)
theorem Tp.n_Clock_steps (T : Tp P w K mg base) : NoAttr K (He.ga K "Clock") "steps" := He.noat_ok (T.c.fact 135 (f := .noat "Clock" "steps") rfl)
theorem Tp.n_Clock_tries (T : Tp P w K mg base) : NoAttr K (He.ga K "Clock") "tries" := He.noat_ok (T.c.fact 136 (f := .noat "Clock" "tries") rfl)
theorem Tp.n_Clock_coming (T : Tp P w K mg base) : NoAttr K (He.ga K "Clock") "coming" := He.noat_ok (T.c.fact 137 (f := .noat "Clock" "coming") rfl)
theorem Tp.n_Clock_every (T : Tp P w K mg base) : NoAttr K (He.ga K "Clock") "every" := He.noat_ok (T.c.fact 138 (f := .noat "Clock" "every") rfl)
theorem Tp.n_Clock_left (T : Tp P w K mg base) : NoAttr K (He.ga K "Clock") "left" := He.noat_ok (T.c.fact 139 (f := .noat "Clock" "left") rfl)
theorem Tp.m_Clock___init__ (T : Tp P w K mg base) : Meth K (He.ga K "Clock") "__init__" (He.ma K (He.ga K "Clock") "__init__") := He.meth_ok (T.c.fact 140 (f := .meth "Clock" "__init__") rfl)
theorem Tp.mk_Clock (T : Tp P w K mg base) : Mk K (He.ga K "Clock") (He.ma K (He.ga K "Clock") "__init__") := He.mkr_ok (T.c.fact 141 (f := .mkr "Clock") rfl)
theorem Tp.c_Limits (T : Tp P w K mg base) : Cls K (He.ga K "Limits") := He.cls_ok (T.c.fact 142 (f := .cls "Limits") rfl)
theorem Tp.n_Limits_rows (T : Tp P w K mg base) : NoAttr K (He.ga K "Limits") "rows" := He.noat_ok (T.c.fact 143 (f := .noat "Limits" "rows") rfl)
theorem Tp.m_Limits___init__ (T : Tp P w K mg base) : Meth K (He.ga K "Limits") "__init__" (He.ma K (He.ga K "Limits") "__init__") := He.meth_ok (T.c.fact 144 (f := .meth "Limits" "__init__") rfl)
theorem Tp.m_Limits_put (T : Tp P w K mg base) : Meth K (He.ga K "Limits") "put" (He.ma K (He.ga K "Limits") "put") := He.meth_ok (T.c.fact 145 (f := .meth "Limits" "put") rfl)
theorem Tp.m_Limits_begun (T : Tp P w K mg base) : Meth K (He.ga K "Limits") "begun" (He.ma K (He.ga K "Limits") "begun") := He.meth_ok (T.c.fact 146 (f := .meth "Limits" "begun") rfl)
theorem Tp.m_Limits_over (T : Tp P w K mg base) : Meth K (He.ga K "Limits") "over" (He.ma K (He.ga K "Limits") "over") := He.meth_ok (T.c.fact 147 (f := .meth "Limits" "over") rfl)
theorem Tp.m_Limits_at_once (T : Tp P w K mg base) : Meth K (He.ga K "Limits") "at_once" (He.ma K (He.ga K "Limits") "at_once") := He.meth_ok (T.c.fact 148 (f := .meth "Limits" "at_once") rfl)
theorem Tp.m_Limits_lately (T : Tp P w K mg base) : Meth K (He.ga K "Limits") "lately" (He.ma K (He.ga K "Limits") "lately") := He.meth_ok (T.c.fact 149 (f := .meth "Limits" "lately") rfl)
theorem Tp.m_Limits_has_room (T : Tp P w K mg base) : Meth K (He.ga K "Limits") "has_room" (He.ma K (He.ga K "Limits") "has_room") := He.meth_ok (T.c.fact 150 (f := .meth "Limits" "has_room") rfl)
theorem Tp.m_Limits_has_rate (T : Tp P w K mg base) : Meth K (He.ga K "Limits") "has_rate" (He.ma K (He.ga K "Limits") "has_rate") := He.meth_ok (T.c.fact 151 (f := .meth "Limits" "has_rate") rfl)
theorem Tp.m_Limits_frees (T : Tp P w K mg base) : Meth K (He.ga K "Limits") "frees" (He.ma K (He.ga K "Limits") "frees") := He.meth_ok (T.c.fact 152 (f := .meth "Limits" "frees") rfl)
theorem Tp.mk_Limits (T : Tp P w K mg base) : Mk K (He.ga K "Limits") (He.ma K (He.ga K "Limits") "__init__") := He.mkr_ok (T.c.fact 153 (f := .mkr "Limits") rfl)
theorem Tp.c_House (T : Tp P w K mg base) : Cls K (He.ga K "House") := He.cls_ok (T.c.fact 154 (f := .cls "House") rfl)
theorem Tp.n_House_here (T : Tp P w K mg base) : NoAttr K (He.ga K "House") "here" := He.noat_ok (T.c.fact 155 (f := .noat "House" "here") rfl)
theorem Tp.n_House_limits (T : Tp P w K mg base) : NoAttr K (He.ga K "House") "limits" := He.noat_ok (T.c.fact 156 (f := .noat "House" "limits") rfl)
theorem Tp.n_House_jobs (T : Tp P w K mg base) : NoAttr K (He.ga K "House") "jobs" := He.noat_ok (T.c.fact 157 (f := .noat "House" "jobs") rfl)
theorem Tp.n_House_given (T : Tp P w K mg base) : NoAttr K (He.ga K "House") "given" := He.noat_ok (T.c.fact 158 (f := .noat "House" "given") rfl)
theorem Tp.n_House_counting (T : Tp P w K mg base) : NoAttr K (He.ga K "House") "counting" := He.noat_ok (T.c.fact 159 (f := .noat "House" "counting") rfl)
theorem Tp.n_House_staff (T : Tp P w K mg base) : NoAttr K (He.ga K "House") "staff" := He.noat_ok (T.c.fact 160 (f := .noat "House" "staff") rfl)
theorem Tp.n_House_clocks (T : Tp P w K mg base) : NoAttr K (He.ga K "House") "clocks" := He.noat_ok (T.c.fact 161 (f := .noat "House" "clocks") rfl)
theorem Tp.n_House_entries (T : Tp P w K mg base) : NoAttr K (He.ga K "House") "entries" := He.noat_ok (T.c.fact 162 (f := .noat "House" "entries") rfl)
theorem Tp.n_House_hold (T : Tp P w K mg base) : NoAttr K (He.ga K "House") "hold" := He.noat_ok (T.c.fact 163 (f := .noat "House" "hold") rfl)
theorem Tp.n_House_pause (T : Tp P w K mg base) : NoAttr K (He.ga K "House") "pause" := He.noat_ok (T.c.fact 164 (f := .noat "House" "pause") rfl)
theorem Tp.n_House_hands (T : Tp P w K mg base) : NoAttr K (He.ga K "House") "hands" := He.noat_ok (T.c.fact 165 (f := .noat "House" "hands") rfl)
theorem Tp.n_House_age (T : Tp P w K mg base) : NoAttr K (He.ga K "House") "age" := He.noat_ok (T.c.fact 166 (f := .noat "House" "age") rfl)
theorem Tp.m_House___init__ (T : Tp P w K mg base) : Meth K (He.ga K "House") "__init__" (He.ma K (He.ga K "House") "__init__") := He.meth_ok (T.c.fact 167 (f := .meth "House" "__init__") rfl)
theorem Tp.m_House_need_kind (T : Tp P w K mg base) : Meth K (He.ga K "House") "need_kind" (He.ma K (He.ga K "House") "need_kind") := He.meth_ok (T.c.fact 168 (f := .meth "House" "need_kind") rfl)
theorem Tp.m_House_job (T : Tp P w K mg base) : Meth K (He.ga K "House") "job" (He.ma K (He.ga K "House") "job") := He.meth_ok (T.c.fact 169 (f := .meth "House" "job") rfl)
theorem Tp.m_House_need_worker (T : Tp P w K mg base) : Meth K (He.ga K "House") "need_worker" (He.ma K (He.ga K "House") "need_worker") := He.meth_ok (T.c.fact 170 (f := .meth "House" "need_worker") rfl)
theorem Tp.m_House_lease (T : Tp P w K mg base) : Meth K (He.ga K "House") "lease" (He.ma K (He.ga K "House") "lease") := He.meth_ok (T.c.fact 171 (f := .meth "House" "lease") rfl)
theorem Tp.m_House_note (T : Tp P w K mg base) : Meth K (He.ga K "House") "note" (He.ma K (He.ga K "House") "note") := He.meth_ok (T.c.fact 172 (f := .meth "House" "note") rfl)
theorem Tp.m_House_now (T : Tp P w K mg base) : Meth K (He.ga K "House") "now" (He.ma K (He.ga K "House") "now") := He.meth_ok (T.c.fact 173 (f := .meth "House" "now") rfl)
theorem Tp.m_House_add (T : Tp P w K mg base) : Meth K (He.ga K "House") "add" (He.ma K (He.ga K "House") "add") := He.meth_ok (T.c.fact 174 (f := .meth "House" "add") rfl)
theorem Tp.m_House_added (T : Tp P w K mg base) : Meth K (He.ga K "House") "added" (He.ma K (He.ga K "House") "added") := He.meth_ok (T.c.fact 175 (f := .meth "House" "added") rfl)
theorem Tp.m_House_clock (T : Tp P w K mg base) : Meth K (He.ga K "House") "clock" (He.ma K (He.ga K "House") "clock") := He.meth_ok (T.c.fact 176 (f := .meth "House" "clock") rfl)
theorem Tp.m_House_join (T : Tp P w K mg base) : Meth K (He.ga K "House") "join" (He.ma K (He.ga K "House") "join") := He.meth_ok (T.c.fact 177 (f := .meth "House" "join") rfl)
theorem Tp.m_House_leave (T : Tp P w K mg base) : Meth K (He.ga K "House") "leave" (He.ma K (He.ga K "House") "leave") := He.meth_ok (T.c.fact 178 (f := .meth "House" "leave") rfl)
theorem Tp.m_House_limit (T : Tp P w K mg base) : Meth K (He.ga K "House") "limit" (He.ma K (He.ga K "House") "limit") := He.meth_ok (T.c.fact 179 (f := .meth "House" "limit") rfl)
theorem Tp.m_House_closed (T : Tp P w K mg base) : Meth K (He.ga K "House") "closed" (He.ma K (He.ga K "House") "closed") := He.meth_ok (T.c.fact 180 (f := .meth "House" "closed") rfl)
theorem Tp.m_House_turn (T : Tp P w K mg base) : Meth K (He.ga K "House") "turn" (He.ma K (He.ga K "House") "turn") := He.meth_ok (T.c.fact 181 (f := .meth "House" "turn") rfl)
theorem Tp.m_House_next_ticks (T : Tp P w K mg base) : Meth K (He.ga K "House") "next_ticks" (He.ma K (He.ga K "House") "next_ticks") := He.meth_ok (T.c.fact 182 (f := .meth "House" "next_ticks") rfl)
theorem Tp.m_House_strike (T : Tp P w K mg base) : Meth K (He.ga K "House") "strike" (He.ma K (He.ga K "House") "strike") := He.meth_ok (T.c.fact 183 (f := .meth "House" "strike") rfl)
theorem Tp.m_House_missing (T : Tp P w K mg base) : Meth K (He.ga K "House") "missing" (He.ma K (He.ga K "House") "missing") := He.meth_ok (T.c.fact 184 (f := .meth "House" "missing") rfl)
theorem Tp.m_House_lost_by (T : Tp P w K mg base) : Meth K (He.ga K "House") "lost_by" (He.ma K (He.ga K "House") "lost_by") := He.meth_ok (T.c.fact 185 (f := .meth "House" "lost_by") rfl)
theorem Tp.m_House_is_ready (T : Tp P w K mg base) : Meth K (He.ga K "House") "is_ready" (He.ma K (He.ga K "House") "is_ready") := He.meth_ok (T.c.fact 186 (f := .meth "House" "is_ready") rfl)
theorem Tp.m_House_rank_of (T : Tp P w K mg base) : Meth K (He.ga K "House") "rank_of" (He.ma K (He.ga K "House") "rank_of") := He.meth_ok (T.c.fact 187 (f := .meth "House" "rank_of") rfl)
theorem Tp.m_House_turn_of (T : Tp P w K mg base) : Meth K (He.ga K "House") "turn_of" (He.ma K (He.ga K "House") "turn_of") := He.meth_ok (T.c.fact 188 (f := .meth "House" "turn_of") rfl)
theorem Tp.m_House_order (T : Tp P w K mg base) : Meth K (He.ga K "House") "order" (He.ma K (He.ga K "House") "order") := He.meth_ok (T.c.fact 189 (f := .meth "House" "order") rfl)
theorem Tp.m_House_hands_of (T : Tp P w K mg base) : Meth K (He.ga K "House") "hands_of" (He.ma K (He.ga K "House") "hands_of") := He.meth_ok (T.c.fact 190 (f := .meth "House" "hands_of") rfl)
theorem Tp.m_House_hindrance (T : Tp P w K mg base) : Meth K (He.ga K "House") "hindrance" (He.ma K (He.ga K "House") "hindrance") := He.meth_ok (T.c.fact 191 (f := .meth "House" "hindrance") rfl)
theorem Tp.m_House_take (T : Tp P w K mg base) : Meth K (He.ga K "House") "take" (He.ma K (He.ga K "House") "take") := He.meth_ok (T.c.fact 192 (f := .meth "House" "take") rfl)
theorem Tp.m_House_why (T : Tp P w K mg base) : Meth K (He.ga K "House") "why" (He.ma K (He.ga K "House") "why") := He.meth_ok (T.c.fact 193 (f := .meth "House" "why") rfl)
theorem Tp.m_House_done (T : Tp P w K mg base) : Meth K (He.ga K "House") "done" (He.ma K (He.ga K "House") "done") := He.meth_ok (T.c.fact 194 (f := .meth "House" "done") rfl)
theorem Tp.m_House_fail (T : Tp P w K mg base) : Meth K (He.ga K "House") "fail" (He.ma K (He.ga K "House") "fail") := He.meth_ok (T.c.fact 195 (f := .meth "House" "fail") rfl)
theorem Tp.m_House_beat (T : Tp P w K mg base) : Meth K (He.ga K "House") "beat" (He.ma K (He.ga K "House") "beat") := He.meth_ok (T.c.fact 196 (f := .meth "House" "beat") rfl)
theorem Tp.m_House_tell (T : Tp P w K mg base) : Meth K (He.ga K "House") "tell" (He.ma K (He.ga K "House") "tell") := He.meth_ok (T.c.fact 197 (f := .meth "House" "tell") rfl)
theorem Tp.m_House_drop (T : Tp P w K mg base) : Meth K (He.ga K "House") "drop" (He.ma K (He.ga K "House") "drop") := He.meth_ok (T.c.fact 198 (f := .meth "House" "drop") rfl)
theorem Tp.m_House_again (T : Tp P w K mg base) : Meth K (He.ga K "House") "again" (He.ma K (He.ga K "House") "again") := He.meth_ok (T.c.fact 199 (f := .meth "House" "again") rfl)
theorem Tp.m_House_state (T : Tp P w K mg base) : Meth K (He.ga K "House") "state" (He.ma K (He.ga K "House") "state") := He.meth_ok (T.c.fact 200 (f := .meth "House" "state") rfl)
theorem Tp.m_House_progress (T : Tp P w K mg base) : Meth K (He.ga K "House") "progress" (He.ma K (He.ga K "House") "progress") := He.meth_ok (T.c.fact 201 (f := .meth "House" "progress") rfl)
theorem Tp.m_House_queue (T : Tp P w K mg base) : Meth K (He.ga K "House") "queue" (He.ma K (He.ga K "House") "queue") := He.meth_ok (T.c.fact 202 (f := .meth "House" "queue") rfl)
theorem Tp.m_House_limits_of (T : Tp P w K mg base) : Meth K (He.ga K "House") "limits_of" (He.ma K (He.ga K "House") "limits_of") := He.meth_ok (T.c.fact 203 (f := .meth "House" "limits_of") rfl)
theorem Tp.m_House_leases (T : Tp P w K mg base) : Meth K (He.ga K "House") "leases" (He.ma K (He.ga K "House") "leases") := He.meth_ok (T.c.fact 204 (f := .meth "House" "leases") rfl)
theorem Tp.m_House_workers (T : Tp P w K mg base) : Meth K (He.ga K "House") "workers" (He.ma K (He.ga K "House") "workers") := He.meth_ok (T.c.fact 205 (f := .meth "House" "workers") rfl)
theorem Tp.m_House_next_due (T : Tp P w K mg base) : Meth K (He.ga K "House") "next_due" (He.ma K (He.ga K "House") "next_due") := He.meth_ok (T.c.fact 206 (f := .meth "House" "next_due") rfl)
theorem Tp.m_House_log (T : Tp P w K mg base) : Meth K (He.ga K "House") "log" (He.ma K (He.ga K "House") "log") := He.meth_ok (T.c.fact 207 (f := .meth "House" "log") rfl)
theorem Tp.mk_House (T : Tp P w K mg base) : Mk K (He.ga K "House") (He.ma K (He.ga K "House") "__init__") := He.mkr_ok (T.c.fact 208 (f := .mkr "House") rfl)
theorem Tp.fd__wall (T : Tp P w K mg base) : ∃ fd, FunD K "_wall" "_wall" (defArgs s__wall) (defBody s__wall) (defScope s__wall) (He.DefD.dvs K d__wall) (He.DefD.kws K d__wall) (He.ga K "_wall") fd := T.c.def_ 0 (d := d__wall) rfl
theorem Tp.fd_BadPlan___init__ (T : Tp P w K mg base) : ∃ fd, FunD K "__init__" "BadPlan.__init__" (defArgs s_BadPlan___init__) (defBody s_BadPlan___init__) (defScope s_BadPlan___init__) (He.DefD.dvs K d_BadPlan___init__) (He.DefD.kws K d_BadPlan___init__) (He.ma K (He.ga K "BadPlan") "__init__") fd := T.c.def_ 1 (d := d_BadPlan___init__) rfl
theorem Tp.fd_doubled (T : Tp P w K mg base) : ∃ fd, FunD K "doubled" "doubled" (defArgs s_doubled) (defBody s_doubled) (defScope s_doubled) (He.DefD.dvs K d_doubled) (He.DefD.kws K d_doubled) (He.ga K "doubled") fd := T.c.def_ 2 (d := d_doubled) rfl
theorem Tp.fd_Job___init__ (T : Tp P w K mg base) : ∃ fd, FunD K "__init__" "Job.__init__" (defArgs s_Job___init__) (defBody s_Job___init__) (defScope s_Job___init__) (He.DefD.dvs K d_Job___init__) (He.DefD.kws K d_Job___init__) (He.ma K (He.ga K "Job") "__init__") fd := T.c.def_ 3 (d := d_Job___init__) rfl
theorem Tp.fd_Job_kind (T : Tp P w K mg base) : ∃ fd, FunD K "kind" "Job.kind" (defArgs s_Job_kind) (defBody s_Job_kind) (defScope s_Job_kind) (He.DefD.dvs K d_Job_kind) (He.DefD.kws K d_Job_kind) (He.ma K (He.ga K "Job") "kind") fd := T.c.def_ 4 (d := d_Job_kind) rfl
theorem Tp.fd_Job_since (T : Tp P w K mg base) : ∃ fd, FunD K "since" "Job.since" (defArgs s_Job_since) (defBody s_Job_since) (defScope s_Job_since) (He.DefD.dvs K d_Job_since) (He.DefD.kws K d_Job_since) (He.ma K (He.ga K "Job") "since") fd := T.c.def_ 5 (d := d_Job_since) rfl
theorem Tp.fd_Job_step_done (T : Tp P w K mg base) : ∃ fd, FunD K "step_done" "Job.step_done" (defArgs s_Job_step_done) (defBody s_Job_step_done) (defScope s_Job_step_done) (He.DefD.dvs K d_Job_step_done) (He.DefD.kws K d_Job_step_done) (He.ma K (He.ga K "Job") "step_done") fd := T.c.def_ 6 (d := d_Job_step_done) rfl
theorem Tp.fd_Job_step_failed (T : Tp P w K mg base) : ∃ fd, FunD K "step_failed" "Job.step_failed" (defArgs s_Job_step_failed) (defBody s_Job_step_failed) (defScope s_Job_step_failed) (He.DefD.dvs K d_Job_step_failed) (He.DefD.kws K d_Job_step_failed) (He.ma K (He.ga K "Job") "step_failed") fd := T.c.def_ 7 (d := d_Job_step_failed) rfl
theorem Tp.fd_Job_let_go (T : Tp P w K mg base) : ∃ fd, FunD K "let_go" "Job.let_go" (defArgs s_Job_let_go) (defBody s_Job_let_go) (defScope s_Job_let_go) (He.DefD.dvs K d_Job_let_go) (He.DefD.kws K d_Job_let_go) (He.ma K (He.ga K "Job") "let_go") fd := T.c.def_ 8 (d := d_Job_let_go) rfl
theorem Tp.fd_Job_alive_again (T : Tp P w K mg base) : ∃ fd, FunD K "alive_again" "Job.alive_again" (defArgs s_Job_alive_again) (defBody s_Job_alive_again) (defScope s_Job_alive_again) (He.DefD.dvs K d_Job_alive_again) (He.DefD.kws K d_Job_alive_again) (He.ma K (He.ga K "Job") "alive_again") fd := T.c.def_ 9 (d := d_Job_alive_again) rfl
theorem Tp.fd_Lease___init__ (T : Tp P w K mg base) : ∃ fd, FunD K "__init__" "Lease.__init__" (defArgs s_Lease___init__) (defBody s_Lease___init__) (defScope s_Lease___init__) (He.DefD.dvs K d_Lease___init__) (He.DefD.kws K d_Lease___init__) (He.ma K (He.ga K "Lease") "__init__") fd := T.c.def_ 10 (d := d_Lease___init__) rfl
theorem Tp.fd_Lease_shown (T : Tp P w K mg base) : ∃ fd, FunD K "shown" "Lease.shown" (defArgs s_Lease_shown) (defBody s_Lease_shown) (defScope s_Lease_shown) (He.DefD.dvs K d_Lease_shown) (He.DefD.kws K d_Lease_shown) (He.ma K (He.ga K "Lease") "shown") fd := T.c.def_ 11 (d := d_Lease_shown) rfl
theorem Tp.fd_Clock___init__ (T : Tp P w K mg base) : ∃ fd, FunD K "__init__" "Clock.__init__" (defArgs s_Clock___init__) (defBody s_Clock___init__) (defScope s_Clock___init__) (He.DefD.dvs K d_Clock___init__) (He.DefD.kws K d_Clock___init__) (He.ma K (He.ga K "Clock") "__init__") fd := T.c.def_ 12 (d := d_Clock___init__) rfl
theorem Tp.fd_Limits___init__ (T : Tp P w K mg base) : ∃ fd, FunD K "__init__" "Limits.__init__" (defArgs s_Limits___init__) (defBody s_Limits___init__) (defScope s_Limits___init__) (He.DefD.dvs K d_Limits___init__) (He.DefD.kws K d_Limits___init__) (He.ma K (He.ga K "Limits") "__init__") fd := T.c.def_ 13 (d := d_Limits___init__) rfl
theorem Tp.fd_Limits_put (T : Tp P w K mg base) : ∃ fd, FunD K "put" "Limits.put" (defArgs s_Limits_put) (defBody s_Limits_put) (defScope s_Limits_put) (He.DefD.dvs K d_Limits_put) (He.DefD.kws K d_Limits_put) (He.ma K (He.ga K "Limits") "put") fd := T.c.def_ 14 (d := d_Limits_put) rfl
theorem Tp.fd_Limits_begun (T : Tp P w K mg base) : ∃ fd, FunD K "begun" "Limits.begun" (defArgs s_Limits_begun) (defBody s_Limits_begun) (defScope s_Limits_begun) (He.DefD.dvs K d_Limits_begun) (He.DefD.kws K d_Limits_begun) (He.ma K (He.ga K "Limits") "begun") fd := T.c.def_ 15 (d := d_Limits_begun) rfl
theorem Tp.fd_Limits_over (T : Tp P w K mg base) : ∃ fd, FunD K "over" "Limits.over" (defArgs s_Limits_over) (defBody s_Limits_over) (defScope s_Limits_over) (He.DefD.dvs K d_Limits_over) (He.DefD.kws K d_Limits_over) (He.ma K (He.ga K "Limits") "over") fd := T.c.def_ 16 (d := d_Limits_over) rfl
theorem Tp.fd_Limits_at_once (T : Tp P w K mg base) : ∃ fd, FunD K "at_once" "Limits.at_once" (defArgs s_Limits_at_once) (defBody s_Limits_at_once) (defScope s_Limits_at_once) (He.DefD.dvs K d_Limits_at_once) (He.DefD.kws K d_Limits_at_once) (He.ma K (He.ga K "Limits") "at_once") fd := T.c.def_ 17 (d := d_Limits_at_once) rfl
theorem Tp.fd_Limits_lately (T : Tp P w K mg base) : ∃ fd, FunD K "lately" "Limits.lately" (defArgs s_Limits_lately) (defBody s_Limits_lately) (defScope s_Limits_lately) (He.DefD.dvs K d_Limits_lately) (He.DefD.kws K d_Limits_lately) (He.ma K (He.ga K "Limits") "lately") fd := T.c.def_ 18 (d := d_Limits_lately) rfl
theorem Tp.fd_Limits_has_room (T : Tp P w K mg base) : ∃ fd, FunD K "has_room" "Limits.has_room" (defArgs s_Limits_has_room) (defBody s_Limits_has_room) (defScope s_Limits_has_room) (He.DefD.dvs K d_Limits_has_room) (He.DefD.kws K d_Limits_has_room) (He.ma K (He.ga K "Limits") "has_room") fd := T.c.def_ 19 (d := d_Limits_has_room) rfl
theorem Tp.fd_Limits_has_rate (T : Tp P w K mg base) : ∃ fd, FunD K "has_rate" "Limits.has_rate" (defArgs s_Limits_has_rate) (defBody s_Limits_has_rate) (defScope s_Limits_has_rate) (He.DefD.dvs K d_Limits_has_rate) (He.DefD.kws K d_Limits_has_rate) (He.ma K (He.ga K "Limits") "has_rate") fd := T.c.def_ 20 (d := d_Limits_has_rate) rfl
theorem Tp.fd_Limits_frees (T : Tp P w K mg base) : ∃ fd, FunD K "frees" "Limits.frees" (defArgs s_Limits_frees) (defBody s_Limits_frees) (defScope s_Limits_frees) (He.DefD.dvs K d_Limits_frees) (He.DefD.kws K d_Limits_frees) (He.ma K (He.ga K "Limits") "frees") fd := T.c.def_ 21 (d := d_Limits_frees) rfl
theorem Tp.fd_is_number (T : Tp P w K mg base) : ∃ fd, FunD K "is_number" "is_number" (defArgs s_is_number) (defBody s_is_number) (defScope s_is_number) (He.DefD.dvs K d_is_number) (He.DefD.kws K d_is_number) (He.ga K "is_number") fd := T.c.def_ 22 (d := d_is_number) rfl
theorem Tp.fd_is_name (T : Tp P w K mg base) : ∃ fd, FunD K "is_name" "is_name" (defArgs s_is_name) (defBody s_is_name) (defScope s_is_name) (He.DefD.dvs K d_is_name) (He.DefD.kws K d_is_name) (He.ga K "is_name") fd := T.c.def_ 23 (d := d_is_name) rfl
theorem Tp.fd_need_name (T : Tp P w K mg base) : ∃ fd, FunD K "need_name" "need_name" (defArgs s_need_name) (defBody s_need_name) (defScope s_need_name) (He.DefD.dvs K d_need_name) (He.DefD.kws K d_need_name) (He.ga K "need_name") fd := T.c.def_ 24 (d := d_need_name) rfl
theorem Tp.fd_need_count (T : Tp P w K mg base) : ∃ fd, FunD K "need_count" "need_count" (defArgs s_need_count) (defBody s_need_count) (defScope s_need_count) (He.DefD.dvs K d_need_count) (He.DefD.kws K d_need_count) (He.ga K "need_count") fd := T.c.def_ 25 (d := d_need_count) rfl
theorem Tp.fd_need_tick (T : Tp P w K mg base) : ∃ fd, FunD K "need_tick" "need_tick" (defArgs s_need_tick) (defBody s_need_tick) (defScope s_need_tick) (He.DefD.dvs K d_need_tick) (He.DefD.kws K d_need_tick) (He.ga K "need_tick") fd := T.c.def_ 26 (d := d_need_tick) rfl
theorem Tp.fd_is_kind (T : Tp P w K mg base) : ∃ fd, FunD K "is_kind" "is_kind" (defArgs s_is_kind) (defBody s_is_kind) (defScope s_is_kind) (He.DefD.dvs K d_is_kind) (He.DefD.kws K d_is_kind) (He.ga K "is_kind") fd := T.c.def_ 27 (d := d_is_kind) rfl
theorem Tp.fd_need_plan (T : Tp P w K mg base) : ∃ fd, FunD K "need_plan" "need_plan" (defArgs s_need_plan) (defBody s_need_plan) (defScope s_need_plan) (He.DefD.dvs K d_need_plan) (He.DefD.kws K d_need_plan) (He.ga K "need_plan") fd := T.c.def_ 28 (d := d_need_plan) rfl
theorem Tp.fd_need_rank (T : Tp P w K mg base) : ∃ fd, FunD K "need_rank" "need_rank" (defArgs s_need_rank) (defBody s_need_rank) (defScope s_need_rank) (He.DefD.dvs K d_need_rank) (He.DefD.kws K d_need_rank) (He.ga K "need_rank") fd := T.c.def_ 29 (d := d_need_rank) rfl
theorem Tp.fd_need_steps (T : Tp P w K mg base) : ∃ fd, FunD K "need_steps" "need_steps" (defArgs s_need_steps) (defBody s_need_steps) (defScope s_need_steps) (He.DefD.dvs K d_need_steps) (He.DefD.kws K d_need_steps) (He.ga K "need_steps") fd := T.c.def_ 30 (d := d_need_steps) rfl
theorem Tp.fd_need_needs (T : Tp P w K mg base) : ∃ fd, FunD K "need_needs" "need_needs" (defArgs s_need_needs) (defBody s_need_needs) (defScope s_need_needs) (He.DefD.dvs K d_need_needs) (He.DefD.kws K d_need_needs) (He.ga K "need_needs") fd := T.c.def_ 31 (d := d_need_needs) rfl
theorem Tp.fd_need_tries (T : Tp P w K mg base) : ∃ fd, FunD K "need_tries" "need_tries" (defArgs s_need_tries) (defBody s_need_tries) (defScope s_need_tries) (He.DefD.dvs K d_need_tries) (He.DefD.kws K d_need_tries) (He.ga K "need_tries") fd := T.c.def_ 32 (d := d_need_tries) rfl
theorem Tp.fd_House___init__ (T : Tp P w K mg base) : ∃ fd, FunD K "__init__" "House.__init__" (defArgs s_House___init__) (defBody s_House___init__) (defScope s_House___init__) (He.DefD.dvs K d_House___init__) (He.DefD.kws K d_House___init__) (He.ma K (He.ga K "House") "__init__") fd := T.c.def_ 33 (d := d_House___init__) rfl
theorem Tp.fd_House_need_kind (T : Tp P w K mg base) : ∃ fd, FunD K "need_kind" "House.need_kind" (defArgs s_House_need_kind) (defBody s_House_need_kind) (defScope s_House_need_kind) (He.DefD.dvs K d_House_need_kind) (He.DefD.kws K d_House_need_kind) (He.ma K (He.ga K "House") "need_kind") fd := T.c.def_ 34 (d := d_House_need_kind) rfl
theorem Tp.fd_House_job (T : Tp P w K mg base) : ∃ fd, FunD K "job" "House.job" (defArgs s_House_job) (defBody s_House_job) (defScope s_House_job) (He.DefD.dvs K d_House_job) (He.DefD.kws K d_House_job) (He.ma K (He.ga K "House") "job") fd := T.c.def_ 35 (d := d_House_job) rfl
theorem Tp.fd_House_need_worker (T : Tp P w K mg base) : ∃ fd, FunD K "need_worker" "House.need_worker" (defArgs s_House_need_worker) (defBody s_House_need_worker) (defScope s_House_need_worker) (He.DefD.dvs K d_House_need_worker) (He.DefD.kws K d_House_need_worker) (He.ma K (He.ga K "House") "need_worker") fd := T.c.def_ 36 (d := d_House_need_worker) rfl
theorem Tp.fd_House_lease (T : Tp P w K mg base) : ∃ fd, FunD K "lease" "House.lease" (defArgs s_House_lease) (defBody s_House_lease) (defScope s_House_lease) (He.DefD.dvs K d_House_lease) (He.DefD.kws K d_House_lease) (He.ma K (He.ga K "House") "lease") fd := T.c.def_ 37 (d := d_House_lease) rfl
theorem Tp.fd_House_note (T : Tp P w K mg base) : ∃ fd, FunD K "note" "House.note" (defArgs s_House_note) (defBody s_House_note) (defScope s_House_note) (He.DefD.dvs K d_House_note) (He.DefD.kws K d_House_note) (He.ma K (He.ga K "House") "note") fd := T.c.def_ 38 (d := d_House_note) rfl
theorem Tp.fd_House_now (T : Tp P w K mg base) : ∃ fd, FunD K "now" "House.now" (defArgs s_House_now) (defBody s_House_now) (defScope s_House_now) (He.DefD.dvs K d_House_now) (He.DefD.kws K d_House_now) (He.ma K (He.ga K "House") "now") fd := T.c.def_ 39 (d := d_House_now) rfl
theorem Tp.fd_House_add (T : Tp P w K mg base) : ∃ fd, FunD K "add" "House.add" (defArgs s_House_add) (defBody s_House_add) (defScope s_House_add) (He.DefD.dvs K d_House_add) (He.DefD.kws K d_House_add) (He.ma K (He.ga K "House") "add") fd := T.c.def_ 40 (d := d_House_add) rfl
theorem Tp.fd_House_added (T : Tp P w K mg base) : ∃ fd, FunD K "added" "House.added" (defArgs s_House_added) (defBody s_House_added) (defScope s_House_added) (He.DefD.dvs K d_House_added) (He.DefD.kws K d_House_added) (He.ma K (He.ga K "House") "added") fd := T.c.def_ 41 (d := d_House_added) rfl
theorem Tp.fd_House_clock (T : Tp P w K mg base) : ∃ fd, FunD K "clock" "House.clock" (defArgs s_House_clock) (defBody s_House_clock) (defScope s_House_clock) (He.DefD.dvs K d_House_clock) (He.DefD.kws K d_House_clock) (He.ma K (He.ga K "House") "clock") fd := T.c.def_ 42 (d := d_House_clock) rfl
theorem Tp.fd_House_join (T : Tp P w K mg base) : ∃ fd, FunD K "join" "House.join" (defArgs s_House_join) (defBody s_House_join) (defScope s_House_join) (He.DefD.dvs K d_House_join) (He.DefD.kws K d_House_join) (He.ma K (He.ga K "House") "join") fd := T.c.def_ 43 (d := d_House_join) rfl
theorem Tp.fd_House_leave (T : Tp P w K mg base) : ∃ fd, FunD K "leave" "House.leave" (defArgs s_House_leave) (defBody s_House_leave) (defScope s_House_leave) (He.DefD.dvs K d_House_leave) (He.DefD.kws K d_House_leave) (He.ma K (He.ga K "House") "leave") fd := T.c.def_ 44 (d := d_House_leave) rfl
theorem Tp.fd_House_limit (T : Tp P w K mg base) : ∃ fd, FunD K "limit" "House.limit" (defArgs s_House_limit) (defBody s_House_limit) (defScope s_House_limit) (He.DefD.dvs K d_House_limit) (He.DefD.kws K d_House_limit) (He.ma K (He.ga K "House") "limit") fd := T.c.def_ 45 (d := d_House_limit) rfl
theorem Tp.fd_House_closed (T : Tp P w K mg base) : ∃ fd, FunD K "closed" "House.closed" (defArgs s_House_closed) (defBody s_House_closed) (defScope s_House_closed) (He.DefD.dvs K d_House_closed) (He.DefD.kws K d_House_closed) (He.ma K (He.ga K "House") "closed") fd := T.c.def_ 46 (d := d_House_closed) rfl
theorem Tp.fd_House_turn (T : Tp P w K mg base) : ∃ fd, FunD K "turn" "House.turn" (defArgs s_House_turn) (defBody s_House_turn) (defScope s_House_turn) (He.DefD.dvs K d_House_turn) (He.DefD.kws K d_House_turn) (He.ma K (He.ga K "House") "turn") fd := T.c.def_ 47 (d := d_House_turn) rfl
theorem Tp.fd_House_next_ticks (T : Tp P w K mg base) : ∃ fd, FunD K "next_ticks" "House.next_ticks" (defArgs s_House_next_ticks) (defBody s_House_next_ticks) (defScope s_House_next_ticks) (He.DefD.dvs K d_House_next_ticks) (He.DefD.kws K d_House_next_ticks) (He.ma K (He.ga K "House") "next_ticks") fd := T.c.def_ 48 (d := d_House_next_ticks) rfl
theorem Tp.fd_House_strike (T : Tp P w K mg base) : ∃ fd, FunD K "strike" "House.strike" (defArgs s_House_strike) (defBody s_House_strike) (defScope s_House_strike) (He.DefD.dvs K d_House_strike) (He.DefD.kws K d_House_strike) (He.ma K (He.ga K "House") "strike") fd := T.c.def_ 49 (d := d_House_strike) rfl
theorem Tp.fd_House_missing (T : Tp P w K mg base) : ∃ fd, FunD K "missing" "House.missing" (defArgs s_House_missing) (defBody s_House_missing) (defScope s_House_missing) (He.DefD.dvs K d_House_missing) (He.DefD.kws K d_House_missing) (He.ma K (He.ga K "House") "missing") fd := T.c.def_ 50 (d := d_House_missing) rfl
theorem Tp.fd_House_lost_by (T : Tp P w K mg base) : ∃ fd, FunD K "lost_by" "House.lost_by" (defArgs s_House_lost_by) (defBody s_House_lost_by) (defScope s_House_lost_by) (He.DefD.dvs K d_House_lost_by) (He.DefD.kws K d_House_lost_by) (He.ma K (He.ga K "House") "lost_by") fd := T.c.def_ 51 (d := d_House_lost_by) rfl
theorem Tp.fd_House_is_ready (T : Tp P w K mg base) : ∃ fd, FunD K "is_ready" "House.is_ready" (defArgs s_House_is_ready) (defBody s_House_is_ready) (defScope s_House_is_ready) (He.DefD.dvs K d_House_is_ready) (He.DefD.kws K d_House_is_ready) (He.ma K (He.ga K "House") "is_ready") fd := T.c.def_ 52 (d := d_House_is_ready) rfl
theorem Tp.fd_House_rank_of (T : Tp P w K mg base) : ∃ fd, FunD K "rank_of" "House.rank_of" (defArgs s_House_rank_of) (defBody s_House_rank_of) (defScope s_House_rank_of) (He.DefD.dvs K d_House_rank_of) (He.DefD.kws K d_House_rank_of) (He.ma K (He.ga K "House") "rank_of") fd := T.c.def_ 53 (d := d_House_rank_of) rfl
theorem Tp.fd_House_turn_of (T : Tp P w K mg base) : ∃ fd, FunD K "turn_of" "House.turn_of" (defArgs s_House_turn_of) (defBody s_House_turn_of) (defScope s_House_turn_of) (He.DefD.dvs K d_House_turn_of) (He.DefD.kws K d_House_turn_of) (He.ma K (He.ga K "House") "turn_of") fd := T.c.def_ 54 (d := d_House_turn_of) rfl
theorem Tp.fd_House_order (T : Tp P w K mg base) : ∃ fd, FunD K "order" "House.order" (defArgs s_House_order) (defBody s_House_order) (defScope s_House_order) (He.DefD.dvs K d_House_order) (He.DefD.kws K d_House_order) (He.ma K (He.ga K "House") "order") fd := T.c.def_ 55 (d := d_House_order) rfl
theorem Tp.fd_House_hands_of (T : Tp P w K mg base) : ∃ fd, FunD K "hands_of" "House.hands_of" (defArgs s_House_hands_of) (defBody s_House_hands_of) (defScope s_House_hands_of) (He.DefD.dvs K d_House_hands_of) (He.DefD.kws K d_House_hands_of) (He.ma K (He.ga K "House") "hands_of") fd := T.c.def_ 56 (d := d_House_hands_of) rfl
theorem Tp.fd_House_hindrance (T : Tp P w K mg base) : ∃ fd, FunD K "hindrance" "House.hindrance" (defArgs s_House_hindrance) (defBody s_House_hindrance) (defScope s_House_hindrance) (He.DefD.dvs K d_House_hindrance) (He.DefD.kws K d_House_hindrance) (He.ma K (He.ga K "House") "hindrance") fd := T.c.def_ 57 (d := d_House_hindrance) rfl
theorem Tp.fd_House_take (T : Tp P w K mg base) : ∃ fd, FunD K "take" "House.take" (defArgs s_House_take) (defBody s_House_take) (defScope s_House_take) (He.DefD.dvs K d_House_take) (He.DefD.kws K d_House_take) (He.ma K (He.ga K "House") "take") fd := T.c.def_ 58 (d := d_House_take) rfl
theorem Tp.fd_House_why (T : Tp P w K mg base) : ∃ fd, FunD K "why" "House.why" (defArgs s_House_why) (defBody s_House_why) (defScope s_House_why) (He.DefD.dvs K d_House_why) (He.DefD.kws K d_House_why) (He.ma K (He.ga K "House") "why") fd := T.c.def_ 59 (d := d_House_why) rfl
theorem Tp.fd_House_done (T : Tp P w K mg base) : ∃ fd, FunD K "done" "House.done" (defArgs s_House_done) (defBody s_House_done) (defScope s_House_done) (He.DefD.dvs K d_House_done) (He.DefD.kws K d_House_done) (He.ma K (He.ga K "House") "done") fd := T.c.def_ 60 (d := d_House_done) rfl
theorem Tp.fd_House_fail (T : Tp P w K mg base) : ∃ fd, FunD K "fail" "House.fail" (defArgs s_House_fail) (defBody s_House_fail) (defScope s_House_fail) (He.DefD.dvs K d_House_fail) (He.DefD.kws K d_House_fail) (He.ma K (He.ga K "House") "fail") fd := T.c.def_ 61 (d := d_House_fail) rfl
theorem Tp.fd_House_beat (T : Tp P w K mg base) : ∃ fd, FunD K "beat" "House.beat" (defArgs s_House_beat) (defBody s_House_beat) (defScope s_House_beat) (He.DefD.dvs K d_House_beat) (He.DefD.kws K d_House_beat) (He.ma K (He.ga K "House") "beat") fd := T.c.def_ 62 (d := d_House_beat) rfl
theorem Tp.fd_House_tell (T : Tp P w K mg base) : ∃ fd, FunD K "tell" "House.tell" (defArgs s_House_tell) (defBody s_House_tell) (defScope s_House_tell) (He.DefD.dvs K d_House_tell) (He.DefD.kws K d_House_tell) (He.ma K (He.ga K "House") "tell") fd := T.c.def_ 63 (d := d_House_tell) rfl
theorem Tp.fd_House_drop (T : Tp P w K mg base) : ∃ fd, FunD K "drop" "House.drop" (defArgs s_House_drop) (defBody s_House_drop) (defScope s_House_drop) (He.DefD.dvs K d_House_drop) (He.DefD.kws K d_House_drop) (He.ma K (He.ga K "House") "drop") fd := T.c.def_ 64 (d := d_House_drop) rfl
theorem Tp.fd_House_again (T : Tp P w K mg base) : ∃ fd, FunD K "again" "House.again" (defArgs s_House_again) (defBody s_House_again) (defScope s_House_again) (He.DefD.dvs K d_House_again) (He.DefD.kws K d_House_again) (He.ma K (He.ga K "House") "again") fd := T.c.def_ 65 (d := d_House_again) rfl
theorem Tp.fd_House_state (T : Tp P w K mg base) : ∃ fd, FunD K "state" "House.state" (defArgs s_House_state) (defBody s_House_state) (defScope s_House_state) (He.DefD.dvs K d_House_state) (He.DefD.kws K d_House_state) (He.ma K (He.ga K "House") "state") fd := T.c.def_ 66 (d := d_House_state) rfl
theorem Tp.fd_House_progress (T : Tp P w K mg base) : ∃ fd, FunD K "progress" "House.progress" (defArgs s_House_progress) (defBody s_House_progress) (defScope s_House_progress) (He.DefD.dvs K d_House_progress) (He.DefD.kws K d_House_progress) (He.ma K (He.ga K "House") "progress") fd := T.c.def_ 67 (d := d_House_progress) rfl
theorem Tp.fd_House_queue (T : Tp P w K mg base) : ∃ fd, FunD K "queue" "House.queue" (defArgs s_House_queue) (defBody s_House_queue) (defScope s_House_queue) (He.DefD.dvs K d_House_queue) (He.DefD.kws K d_House_queue) (He.ma K (He.ga K "House") "queue") fd := T.c.def_ 68 (d := d_House_queue) rfl
theorem Tp.fd_House_limits_of (T : Tp P w K mg base) : ∃ fd, FunD K "limits_of" "House.limits_of" (defArgs s_House_limits_of) (defBody s_House_limits_of) (defScope s_House_limits_of) (He.DefD.dvs K d_House_limits_of) (He.DefD.kws K d_House_limits_of) (He.ma K (He.ga K "House") "limits_of") fd := T.c.def_ 69 (d := d_House_limits_of) rfl
theorem Tp.fd_House_leases (T : Tp P w K mg base) : ∃ fd, FunD K "leases" "House.leases" (defArgs s_House_leases) (defBody s_House_leases) (defScope s_House_leases) (He.DefD.dvs K d_House_leases) (He.DefD.kws K d_House_leases) (He.ma K (He.ga K "House") "leases") fd := T.c.def_ 70 (d := d_House_leases) rfl
theorem Tp.fd_House_workers (T : Tp P w K mg base) : ∃ fd, FunD K "workers" "House.workers" (defArgs s_House_workers) (defBody s_House_workers) (defScope s_House_workers) (He.DefD.dvs K d_House_workers) (He.DefD.kws K d_House_workers) (He.ma K (He.ga K "House") "workers") fd := T.c.def_ 71 (d := d_House_workers) rfl
theorem Tp.fd_House_next_due (T : Tp P w K mg base) : ∃ fd, FunD K "next_due" "House.next_due" (defArgs s_House_next_due) (defBody s_House_next_due) (defScope s_House_next_due) (He.DefD.dvs K d_House_next_due) (He.DefD.kws K d_House_next_due) (He.ma K (He.ga K "House") "next_due") fd := T.c.def_ 72 (d := d_House_next_due) rfl
theorem Tp.fd_House_log (T : Tp P w K mg base) : ∃ fd, FunD K "log" "House.log" (defArgs s_House_log) (defBody s_House_log) (defScope s_House_log) (He.DefD.dvs K d_House_log) (He.DefD.kws K d_House_log) (He.ma K (He.ga K "House") "log") fd := T.c.def_ 73 (d := d_House_log) rfl
theorem Tp.fd__law_begun (T : Tp P w K mg base) : ∃ fd, FunD K "_law_begun" "_law_begun" (defArgs s__law_begun) (defBody s__law_begun) (defScope s__law_begun) (He.DefD.dvs K d__law_begun) (He.DefD.kws K d__law_begun) (He.ga K "_law_begun") fd := T.c.def_ 74 (d := d__law_begun) rfl
theorem Tp.fd__law_take (T : Tp P w K mg base) : ∃ fd, FunD K "_law_take" "_law_take" (defArgs s__law_take) (defBody s__law_take) (defScope s__law_take) (He.DefD.dvs K d__law_take) (He.DefD.kws K d__law_take) (He.ga K "_law_take") fd := T.c.def_ 75 (d := d__law_take) rfl
theorem Tp.fd__law_alike (T : Tp P w K mg base) : ∃ fd, FunD K "_law_alike" "_law_alike" (defArgs s__law_alike) (defBody s__law_alike) (defScope s__law_alike) (He.DefD.dvs K d__law_alike) (He.DefD.kws K d__law_alike) (He.ga K "_law_alike") fd := T.c.def_ 76 (d := d__law_alike) rfl
theorem Tp.fd__law_taken_at (T : Tp P w K mg base) : ∃ fd, FunD K "_law_taken_at" "_law_taken_at" (defArgs s__law_taken_at) (defBody s__law_taken_at) (defScope s__law_taken_at) (He.DefD.dvs K d__law_taken_at) (He.DefD.kws K d__law_taken_at) (He.ga K "_law_taken_at") fd := T.c.def_ 77 (d := d__law_taken_at) rfl
theorem Tp.fd__law_due (T : Tp P w K mg base) : ∃ fd, FunD K "_law_due" "_law_due" (defArgs s__law_due) (defBody s__law_due) (defScope s__law_due) (He.DefD.dvs K d__law_due) (He.DefD.kws K d__law_due) (He.ga K "_law_due") fd := T.c.def_ 78 (d := d__law_due) rfl
theorem Tp.fd_law (T : Tp P w K mg base) : ∃ fd, FunD K "law" "law" (defArgs s_law) (defBody s_law) (defScope s_law) (He.DefD.dvs K d_law) (He.DefD.kws K d_law) (He.ga K "law") fd := T.c.def_ 79 (d := d_law) rfl
end
end LH
end

section
set_option Elab.async false
set_option linter.all false
set_option maxRecDepth 100000
set_option maxHeartbeats 4000000
/-! small rules -/
namespace LH
open PySem PySem.Spec PyProof.Rows L2
theorem bt_len : bootBuiltins "len" = some (.builtin "len") := by decide +kernel
theorem bt_isinstance : bootBuiltins "isinstance" = some (.builtin "isinstance") := by decide +kernel
theorem bt_min : bootBuiltins "min" = some (.builtin "min") := by decide +kernel
theorem bt_max : bootBuiltins "max" = some (.builtin "max") := by decide +kernel
theorem bt_all : bootBuiltins "all" = some (.builtin "all") := by decide +kernel
theorem bt_sorted : bootBuiltins "sorted" = some (.builtin "sorted") := by decide +kernel
theorem bt_int : bootBuiltins "int" = some (.type "int") := by decide +kernel
theorem bt_bool : bootBuiltins "bool" = some (.type "bool") := by decide +kernel
theorem bt_str : bootBuiltins "str" = some (.type "str") := by decide +kernel
theorem bt_tuple : bootBuiltins "tuple" = some (.type "tuple") := by decide +kernel
theorem bt_list : bootBuiltins "list" = some (.type "list") := by decide +kernel
theorem bt_set : bootBuiltins "set" = some (.type "set") := by decide +kernel
theorem pe_gi {X : Cx} {x : Str} {i : Int} {pos : Pos} (hg : Gl X x) (h : ∃ t, X.mg x = some (.int i t)) (hd : (x == ("__debug__" : Str)) = false := by decide) : PE X (.Name x pos) (tC (.int i)) := by
  obtain ⟨t, h⟩ := h
  exact pe_glob hg h ⟨t, rfl⟩ hd
theorem pe_gs {X : Cx} {x z : Str} {pos : Pos} (hg : Gl X x) (h : ∃ t, X.mg x = some (.str z t)) (hd : (x == ("__debug__" : Str)) = false := by decide) : PE X (.Name x pos) (tC (.str z)) := by
  obtain ⟨t, h⟩ := h
  exact pe_glob hg h ⟨t, rfl⟩ hd
theorem pe_gr {X : Cx} {x : Str} {a : Addr} {pos : Pos} (hg : Gl X x) (h : X.mg x = some (.ref a)) (hd : (x == ("__debug__" : Str)) = false := by decide) : PE X (.Name x pos) (tC (.ref a)) := pe_glob hg h rfl hd
theorem rm {k j : Nat} {A : Around} (h : Room k A) (hj : j ≤ k := by omega) : Room j A := h.mono hj
section
variable {P : Program} {w : World} {K : PySem.W.Frag} {mg : Str → Option Value} {base : Heap}
/-- a def of positional parameters without defaults, as a promise to its callers -/
theorem fnr {N ps : List Str} {x qual : Str} {params : Arguments} {body : List Stmt} {scope : Scope} {f : Addr} {k : Nat} {sp : Sp} (F : ∃ fd, FunD K x qual params body scope [] [] f fd) (S : FnScope N ps scope)
    (hb : ∀ (kV doc pm : Value) (an : Option Addr) (cdv ct : Value) (us : List Value), us.length = ps.length → bindArgs (PySem.W.fnOf x qual params body scope .none kV doc pm an cdv ct) ⟨us, []⟩ = pure (ps.zip us))
    (len : ∀ vs H Q E, sp vs H Q E → vs.length = ps.length)
    (hbody : ∀ (cdv : Value) (A : Around) (outer : List Env) (s : Shared) (H : Hp) (vs : List V) (Q : VK) (E : XK), Room k (A.deeper (envOfC qual scope s.heap.objs.size f cdv)) → sp vs H Q E →
      ∃ t, PSs (XB P w K mg base N qual scope f cdv A outer s H E) body t ∧ t { nx := fun _ H' => Q .non H', rt := Q } (start N vs) H) : FnR P w K mg base (L2.CX P w) (k + 1) f sp := by
  obtain ⟨fd, F⟩ := F
  have h := (FunD.ok (P := P) (w := w) (mg := mg) (base := base) F S len hbody).raw (F.bindsN hb) .nil
  simpa only [List.append_nil] using h
theorem kp_of {x qual : Str} {params : Arguments} {body : List Stmt} {scope : Scope} {f : Addr} {dvs : List V} {kws : List (Str × V)} (F : ∃ fd, FunD K x qual params body scope dvs kws f fd) : PySem.W.keepIn K (.ref f) = true := by
  obtain ⟨fd, F⟩ := F
  exact F.kp
end
/-- o.m() by the positional promise -/
theorem pe_methR0 {X : Cx} {CX : CXT} {k : Nat} {C f : Addr} {m : Str} {sp : Sp} {E : XK} {o : Expr} {ta : TE} {apos pos : Pos} {pl : Sem Bool} (he : PE X o ta) (c : Cls X.K C) (hm : Meth X.K C m f)
    (F : FnR X.prog X.w X.K X.mg X.base CX k f sp) (hr : Room k X.A) (hx : Passes CX X E)
    (ht : eval (.Call (.Attribute o m apos) [] [] pos) X.env = (do
      let ov ← eval o X.env
      standAt apos.atName
      let (f, first) ← holding [ov] (getMethod ov m pl)
      callWith pos f first (backTo pos (starEach [] X.env)) (backToKw pos (keywordEach [] X.env))) := by rfl) :
    PE X (.Call (.Attribute o m apos) [] [] pos) (tMethR C m sp E ta tNil) := by
  refine ⟨fun pins s σ H Q I h => ?_⟩
  refine PySem.W.methodCall_KW (pl := pl) (thn (he.run pins s σ H _ I h) fun u s1 ⟨x, H1, I1, rx, a, dx, fs, ex, ea, l, q⟩ => ?_) ht
  subst ex
  obtain rfl : u = Value.ref a := rx
  refine getmeth_ok I1 ea c hm l ?_
  exact PySem.W.callWith_K0 (first := [.ref a]) I1.kIn hm.kp (wpAny_call (run_fnR (us := [.ref a]) (vs := [.ref a]) F hr hx I1 (.cons rfl .nil) q))
/-- the rules that name the written part, said of a K that is known (within a comprehension or a lambda) -/
theorem pe_fldK {X : Cx} (K : PySem.W.Frag) (hK : X.K = K) {e : Expr} {f : Str} {pos : Pos} {ta : TE} (he : PE X e ta) (hb : attributeBase e f X.env (eval e X.env) = eval e X.env) : PE X (.Attribute e f pos) (tFld K ta f) := by
  subst hK
  exact pe_fld he hb
theorem ix_tupK {X : Cx} (K : PySem.W.Frag) (hK : X.K = K) : IxR X (rIxT K) := by
  subst hK
  exact ix_tup
theorem ix_listK {X : Cx} (K : PySem.W.Frag) (hK : X.K = K) : IxR X (rIxL K) := by
  subst hK
  exact ix_list
theorem op_eqDK {X : Cx} (K : PySem.W.Frag) (hK : X.K = K) (hu : X.A.units + 64 < cLine) : OpR X (compareOp .Eq) (rEqD K) := by
  subst hK
  exact op_eqD hu
/-- x(e, ..), x a def of the module, by the positional promise -/
theorem pe_callP {X : Cx} {CX : CXT} {k : Nat} {f : Addr} {sp : Sp} {E : XK} {x : Str} {e : Expr} {es : List Expr} {t : TA} {p pos : Pos} (F : FnR X.prog X.w X.K X.mg X.base CX k f sp) (hr : Room k X.A) (hk : PySem.W.keepIn X.K (.ref f) = true) (hg : Gl X x)
    (hm : X.mg x = some (.ref f)) (hx : Passes CX X E) (ha : PA X (e :: es) t) (hd : (x == ("__debug__" : Str)) = false := by decide)
    (he : starEach (e :: es) X.env = (false, eval e X.env) :: starEach es X.env := by rfl) (hpl : (backTo pos (starEach es X.env)).any (·.1) = false := by rfl) :
    PE X (.Call (.Name x p) (e :: es) [] pos) (fun σ H Q => t σ H fun vs H1 => sp vs H1 Q E) := by
  refine ⟨fun pins s σ H Q I h => ?_⟩
  refine wpAny_Call_Name_kw (ld_glob I hg hm ?_ hd)
  refine PySem.W.callWith_K (h₀ := X.base) I.ok.mod.kin hk (thn (ha.run pos pins s σ H _ I h) fun us s1 ⟨vs, H1, I1, r, q⟩ => ⟨I1.kIn, ?_⟩) he hpl
  exact wpAny_call (run_fnR F hr hx I1 r q)
theorem pe_callP0 {X : Cx} {CX : CXT} {k : Nat} {f : Addr} {sp : Sp} {E : XK} {x : Str} {p pos : Pos} (F : FnR X.prog X.w X.K X.mg X.base CX k f sp) (hr : Room k X.A) (hk : PySem.W.keepIn X.K (.ref f) = true) (hg : Gl X x)
    (hm : X.mg x = some (.ref f)) (hx : Passes CX X E) (hd : (x == ("__debug__" : Str)) = false := by decide) :
    PE X (.Call (.Name x p) [] [] pos) (fun σ H Q => sp [] H Q E) := by
  refine ⟨fun pins s σ H Q I h => ?_⟩
  refine wpAny_Call_Name_kw (ld_glob I hg hm ?_ hd)
  exact PySem.W.callWith_K0 I.kIn hk (wpAny_call (run_fnR (us := []) (vs := []) F hr hx I .nil h))
/-- reading a field -/
theorem pe_ty {X : Cx} {x : Str} {n : String} {pos : Pos} (hg : Gl X x) (hm : X.mg x = none) (hv : bootBuiltins x = some (.type n)) (hn : x ≠ "__name__" := by decide) (hd : (x == ("__debug__" : Str)) = false := by decide) : PE X (.Name x pos) (tC (.ty n)) :=
  pe_bltn hg hm hv rfl hn hd
section
variable {P : Program} {w : World} {K : PySem.W.Frag} {mg : Str → Option Value} {base : Heap}
def JobG.W (g : JobG) (j : JobS) : JobG := ⟨j, g.a, g.dx, g.t, g.n⟩
def LeaseG.W (g : LeaseG) (j : LeaseS) : LeaseG := ⟨j, g.a, g.dx⟩
def ClockG.W (g : ClockG) (j : ClockS) : ClockG := ⟨j, g.a, g.dx, g.t⟩
theorem JobG.W_W (g : JobG) (j i : JobS) : (g.W j).W i = g.W i := rfl
theorem JobG.W_a (g : JobG) (j : JobS) : (g.W j).a = g.a := rfl
theorem JobG.W_dx (g : JobG) (j : JobS) : (g.W j).dx = g.dx := rfl
theorem JobG.W_S (g : JobG) (j : JobS) : (g.W j).toJobS = j := rfl
theorem Tp.jr_rank (T : Tp P w K mg base) {H : Hp} {g : JobG} (hg : JobAt K H g) {R : V → Prop} (q : R (V.int g.rank)) : ∃ a C dx fs v, V.ref g.a = .ref a ∧ H a = some (.ins C dx fs) ∧ Cls K C ∧ NoAttr K C ("rank" : Str) ∧ fs.lookup ("rank" : Str) = some v ∧ R v :=
  ⟨_, _, _, _, _, rfl, hg.ob, T.c_Job, T.n_Job_rank, job_rank g, q⟩
theorem Tp.jr_until (T : Tp P w K mg base) {H : Hp} {g : JobG} (hg : JobAt K H g) {R : V → Prop} (q : R (V.int g.til)) : ∃ a C dx fs v, V.ref g.a = .ref a ∧ H a = some (.ins C dx fs) ∧ Cls K C ∧ NoAttr K C ("until" : Str) ∧ fs.lookup ("until" : Str) = some v ∧ R v :=
  ⟨_, _, _, _, _, rfl, hg.ob, T.c_Job, T.n_Job_until, job_until g, q⟩
theorem Tp.jr_steps (T : Tp P w K mg base) {H : Hp} {g : JobG} (hg : JobAt K H g) {R : V → Prop} (q : R (V.ref g.t)) : ∃ a C dx fs v, V.ref g.a = .ref a ∧ H a = some (.ins C dx fs) ∧ Cls K C ∧ NoAttr K C ("steps" : Str) ∧ fs.lookup ("steps" : Str) = some v ∧ R v :=
  ⟨_, _, _, _, _, rfl, hg.ob, T.c_Job, T.n_Job_steps, job_steps g, q⟩
theorem Tp.jr_needed (T : Tp P w K mg base) {H : Hp} {g : JobG} (hg : JobAt K H g) {R : V → Prop} (q : R (V.ref g.n)) : ∃ a C dx fs v, V.ref g.a = .ref a ∧ H a = some (.ins C dx fs) ∧ Cls K C ∧ NoAttr K C ("needed" : Str) ∧ fs.lookup ("needed" : Str) = some v ∧ R v :=
  ⟨_, _, _, _, _, rfl, hg.ob, T.c_Job, T.n_Job_needed, job_needed g, q⟩
theorem Tp.jr_most (T : Tp P w K mg base) {H : Hp} {g : JobG} (hg : JobAt K H g) {R : V → Prop} (q : R (V.int g.most)) : ∃ a C dx fs v, V.ref g.a = .ref a ∧ H a = some (.ins C dx fs) ∧ Cls K C ∧ NoAttr K C ("most" : Str) ∧ fs.lookup ("most" : Str) = some v ∧ R v :=
  ⟨_, _, _, _, _, rfl, hg.ob, T.c_Job, T.n_Job_most, job_most g, q⟩
theorem Tp.jr_done_steps (T : Tp P w K mg base) {H : Hp} {g : JobG} (hg : JobAt K H g) {R : V → Prop} (q : R (V.int (g.fin : Nat))) : ∃ a C dx fs v, V.ref g.a = .ref a ∧ H a = some (.ins C dx fs) ∧ Cls K C ∧ NoAttr K C ("done_steps" : Str) ∧ fs.lookup ("done_steps" : Str) = some v ∧ R v :=
  ⟨_, _, _, _, _, rfl, hg.ob, T.c_Job, T.n_Job_done_steps, job_done_steps g, q⟩
theorem Tp.jr_tries (T : Tp P w K mg base) {H : Hp} {g : JobG} (hg : JobAt K H g) {R : V → Prop} (q : R (V.int (g.tries : Nat))) : ∃ a C dx fs v, V.ref g.a = .ref a ∧ H a = some (.ins C dx fs) ∧ Cls K C ∧ NoAttr K C ("tries" : Str) ∧ fs.lookup ("tries" : Str) = some v ∧ R v :=
  ⟨_, _, _, _, _, rfl, hg.ob, T.c_Job, T.n_Job_tries, job_tries g, q⟩
theorem Tp.jr_share (T : Tp P w K mg base) {H : Hp} {g : JobG} (hg : JobAt K H g) {R : V → Prop} (q : R (V.int g.share)) : ∃ a C dx fs v, V.ref g.a = .ref a ∧ H a = some (.ins C dx fs) ∧ Cls K C ∧ NoAttr K C ("share" : Str) ∧ fs.lookup ("share" : Str) = some v ∧ R v :=
  ⟨_, _, _, _, _, rfl, hg.ob, T.c_Job, T.n_Job_share, job_share g, q⟩
theorem Tp.jr_ended (T : Tp P w K mg base) {H : Hp} {g : JobG} (hg : JobAt K H g) {R : V → Prop} (q : R ((optS g.ended))) : ∃ a C dx fs v, V.ref g.a = .ref a ∧ H a = some (.ins C dx fs) ∧ Cls K C ∧ NoAttr K C ("ended" : Str) ∧ fs.lookup ("ended" : Str) = some v ∧ R v :=
  ⟨_, _, _, _, _, rfl, hg.ob, T.c_Job, T.n_Job_ended, job_ended g, q⟩
theorem Tp.jr_held (T : Tp P w K mg base) {H : Hp} {g : JobG} (hg : JobAt K H g) {R : V → Prop} (q : R ((optN g.held))) : ∃ a C dx fs v, V.ref g.a = .ref a ∧ H a = some (.ins C dx fs) ∧ Cls K C ∧ NoAttr K C ("held" : Str) ∧ fs.lookup ("held" : Str) = some v ∧ R v :=
  ⟨_, _, _, _, _, rfl, hg.ob, T.c_Job, T.n_Job_held, job_held g, q⟩
theorem Tp.jr_free_at (T : Tp P w K mg base) {H : Hp} {g : JobG} (hg : JobAt K H g) {R : V → Prop} (q : R (V.int g.free)) : ∃ a C dx fs v, V.ref g.a = .ref a ∧ H a = some (.ins C dx fs) ∧ Cls K C ∧ NoAttr K C ("free_at" : Str) ∧ fs.lookup ("free_at" : Str) = some v ∧ R v :=
  ⟨_, _, _, _, _, rfl, hg.ob, T.c_Job, T.n_Job_free_at, job_free_at g, q⟩
theorem Tp.er_number (T : Tp P w K mg base) {H : Hp} {g : LeaseG} (hg : LeaseAt K H g) {R : V → Prop} (q : R (V.int (g.num : Nat))) : ∃ a C dx fs v, V.ref g.a = .ref a ∧ H a = some (.ins C dx fs) ∧ Cls K C ∧ NoAttr K C ("number" : Str) ∧ fs.lookup ("number" : Str) = some v ∧ R v :=
  ⟨_, _, _, _, _, rfl, hg.ob, T.c_Lease, T.n_Lease_number, lease_number g, q⟩
theorem Tp.er_work (T : Tp P w K mg base) {H : Hp} {g : LeaseG} (hg : LeaseAt K H g) {R : V → Prop} (q : R (V.int (g.work : Nat))) : ∃ a C dx fs v, V.ref g.a = .ref a ∧ H a = some (.ins C dx fs) ∧ Cls K C ∧ NoAttr K C ("work" : Str) ∧ fs.lookup ("work" : Str) = some v ∧ R v :=
  ⟨_, _, _, _, _, rfl, hg.ob, T.c_Lease, T.n_Lease_work, lease_work g, q⟩
theorem Tp.er_step (T : Tp P w K mg base) {H : Hp} {g : LeaseG} (hg : LeaseAt K H g) {R : V → Prop} (q : R (V.int (g.step : Nat))) : ∃ a C dx fs v, V.ref g.a = .ref a ∧ H a = some (.ins C dx fs) ∧ Cls K C ∧ NoAttr K C ("step" : Str) ∧ fs.lookup ("step" : Str) = some v ∧ R v :=
  ⟨_, _, _, _, _, rfl, hg.ob, T.c_Lease, T.n_Lease_step, lease_step g, q⟩
theorem Tp.er_worker (T : Tp P w K mg base) {H : Hp} {g : LeaseG} (hg : LeaseAt K H g) {R : V → Prop} (q : R (V.str g.worker)) : ∃ a C dx fs v, V.ref g.a = .ref a ∧ H a = some (.ins C dx fs) ∧ Cls K C ∧ NoAttr K C ("worker" : Str) ∧ fs.lookup ("worker" : Str) = some v ∧ R v :=
  ⟨_, _, _, _, _, rfl, hg.ob, T.c_Lease, T.n_Lease_worker, lease_worker g, q⟩
theorem Tp.er_until (T : Tp P w K mg base) {H : Hp} {g : LeaseG} (hg : LeaseAt K H g) {R : V → Prop} (q : R (V.int g.til)) : ∃ a C dx fs v, V.ref g.a = .ref a ∧ H a = some (.ins C dx fs) ∧ Cls K C ∧ NoAttr K C ("until" : Str) ∧ fs.lookup ("until" : Str) = some v ∧ R v :=
  ⟨_, _, _, _, _, rfl, hg.ob, T.c_Lease, T.n_Lease_until, lease_until g, q⟩
theorem Tp.cr_rank (T : Tp P w K mg base) {H : Hp} {g : ClockG} (hg : ClockAt K H g) {R : V → Prop} (q : R (V.int g.rank)) : ∃ a C dx fs v, V.ref g.a = .ref a ∧ H a = some (.ins C dx fs) ∧ Cls K C ∧ NoAttr K C ("rank" : Str) ∧ fs.lookup ("rank" : Str) = some v ∧ R v :=
  ⟨_, _, _, _, _, rfl, hg.ob, T.c_Clock, T.n_Clock_rank, clock_rank g, q⟩
theorem Tp.cr_steps (T : Tp P w K mg base) {H : Hp} {g : ClockG} (hg : ClockAt K H g) {R : V → Prop} (q : R (V.ref g.t)) : ∃ a C dx fs v, V.ref g.a = .ref a ∧ H a = some (.ins C dx fs) ∧ Cls K C ∧ NoAttr K C ("steps" : Str) ∧ fs.lookup ("steps" : Str) = some v ∧ R v :=
  ⟨_, _, _, _, _, rfl, hg.ob, T.c_Clock, T.n_Clock_steps, clock_steps g, q⟩
theorem Tp.cr_tries (T : Tp P w K mg base) {H : Hp} {g : ClockG} (hg : ClockAt K H g) {R : V → Prop} (q : R (V.int g.tries)) : ∃ a C dx fs v, V.ref g.a = .ref a ∧ H a = some (.ins C dx fs) ∧ Cls K C ∧ NoAttr K C ("tries" : Str) ∧ fs.lookup ("tries" : Str) = some v ∧ R v :=
  ⟨_, _, _, _, _, rfl, hg.ob, T.c_Clock, T.n_Clock_tries, clock_tries g, q⟩
theorem Tp.cr_coming (T : Tp P w K mg base) {H : Hp} {g : ClockG} (hg : ClockAt K H g) {R : V → Prop} (q : R (V.int g.coming)) : ∃ a C dx fs v, V.ref g.a = .ref a ∧ H a = some (.ins C dx fs) ∧ Cls K C ∧ NoAttr K C ("coming" : Str) ∧ fs.lookup ("coming" : Str) = some v ∧ R v :=
  ⟨_, _, _, _, _, rfl, hg.ob, T.c_Clock, T.n_Clock_coming, clock_coming g, q⟩
theorem Tp.cr_every (T : Tp P w K mg base) {H : Hp} {g : ClockG} (hg : ClockAt K H g) {R : V → Prop} (q : R (V.int g.every)) : ∃ a C dx fs v, V.ref g.a = .ref a ∧ H a = some (.ins C dx fs) ∧ Cls K C ∧ NoAttr K C ("every" : Str) ∧ fs.lookup ("every" : Str) = some v ∧ R v :=
  ⟨_, _, _, _, _, rfl, hg.ob, T.c_Clock, T.n_Clock_every, clock_every g, q⟩
theorem Tp.cr_left (T : Tp P w K mg base) {H : Hp} {g : ClockG} (hg : ClockAt K H g) {R : V → Prop} (q : R (V.int g.left)) : ∃ a C dx fs v, V.ref g.a = .ref a ∧ H a = some (.ins C dx fs) ∧ Cls K C ∧ NoAttr K C ("left" : Str) ∧ fs.lookup ("left" : Str) = some v ∧ R v :=
  ⟨_, _, _, _, _, rfl, hg.ob, T.c_Clock, T.n_Clock_left, clock_left g, q⟩
theorem Tp.hr_here (T : Tp P w K mg base) {H : Hp} {g : HG} (hg : HouseAt K H g) {R : V → Prop} (q : R (V.int g.here)) : ∃ a C dx fs v, V.ref g.p = .ref a ∧ H a = some (.ins C dx fs) ∧ Cls K C ∧ NoAttr K C ("here" : Str) ∧ fs.lookup ("here" : Str) = some v ∧ R v :=
  ⟨_, _, _, _, _, rfl, hg.ob, T.c_House, T.n_House_here, house_here g, q⟩
theorem Tp.hr_hold (T : Tp P w K mg base) {H : Hp} {g : HG} (hg : HouseAt K H g) {R : V → Prop} (q : R (V.int g.hold)) : ∃ a C dx fs v, V.ref g.p = .ref a ∧ H a = some (.ins C dx fs) ∧ Cls K C ∧ NoAttr K C ("hold" : Str) ∧ fs.lookup ("hold" : Str) = some v ∧ R v :=
  ⟨_, _, _, _, _, rfl, hg.ob, T.c_House, T.n_House_hold, house_hold g, q⟩
theorem Tp.hr_pause (T : Tp P w K mg base) {H : Hp} {g : HG} (hg : HouseAt K H g) {R : V → Prop} (q : R (V.int g.pause)) : ∃ a C dx fs v, V.ref g.p = .ref a ∧ H a = some (.ins C dx fs) ∧ Cls K C ∧ NoAttr K C ("pause" : Str) ∧ fs.lookup ("pause" : Str) = some v ∧ R v :=
  ⟨_, _, _, _, _, rfl, hg.ob, T.c_House, T.n_House_pause, house_pause g, q⟩
theorem Tp.hr_hands (T : Tp P w K mg base) {H : Hp} {g : HG} (hg : HouseAt K H g) {R : V → Prop} (q : R (V.int g.hands)) : ∃ a C dx fs v, V.ref g.p = .ref a ∧ H a = some (.ins C dx fs) ∧ Cls K C ∧ NoAttr K C ("hands" : Str) ∧ fs.lookup ("hands" : Str) = some v ∧ R v :=
  ⟨_, _, _, _, _, rfl, hg.ob, T.c_House, T.n_House_hands, house_hands g, q⟩
theorem Tp.hr_age (T : Tp P w K mg base) {H : Hp} {g : HG} (hg : HouseAt K H g) {R : V → Prop} (q : R (V.int g.age)) : ∃ a C dx fs v, V.ref g.p = .ref a ∧ H a = some (.ins C dx fs) ∧ Cls K C ∧ NoAttr K C ("age" : Str) ∧ fs.lookup ("age" : Str) = some v ∧ R v :=
  ⟨_, _, _, _, _, rfl, hg.ob, T.c_House, T.n_House_age, house_age g, q⟩
theorem Tp.hr_limits (T : Tp P w K mg base) {H : Hp} {g : HG} (hg : HouseAt K H g) {R : V → Prop} (q : R (V.ref g.lim)) : ∃ a C dx fs v, V.ref g.p = .ref a ∧ H a = some (.ins C dx fs) ∧ Cls K C ∧ NoAttr K C ("limits" : Str) ∧ fs.lookup ("limits" : Str) = some v ∧ R v :=
  ⟨_, _, _, _, _, rfl, hg.ob, T.c_House, T.n_House_limits, house_limits g, q⟩
theorem Tp.hr_jobs (T : Tp P w K mg base) {H : Hp} {g : HG} (hg : HouseAt K H g) {R : V → Prop} (q : R (V.ref g.jl)) : ∃ a C dx fs v, V.ref g.p = .ref a ∧ H a = some (.ins C dx fs) ∧ Cls K C ∧ NoAttr K C ("jobs" : Str) ∧ fs.lookup ("jobs" : Str) = some v ∧ R v :=
  ⟨_, _, _, _, _, rfl, hg.ob, T.c_House, T.n_House_jobs, house_jobs g, q⟩
theorem Tp.hr_given (T : Tp P w K mg base) {H : Hp} {g : HG} (hg : HouseAt K H g) {R : V → Prop} (q : R (V.int (g.given : Nat))) : ∃ a C dx fs v, V.ref g.p = .ref a ∧ H a = some (.ins C dx fs) ∧ Cls K C ∧ NoAttr K C ("given" : Str) ∧ fs.lookup ("given" : Str) = some v ∧ R v :=
  ⟨_, _, _, _, _, rfl, hg.ob, T.c_House, T.n_House_given, house_given g, q⟩
theorem Tp.hr_counting (T : Tp P w K mg base) {H : Hp} {g : HG} (hg : HouseAt K H g) {R : V → Prop} (q : R (V.ref g.cd)) : ∃ a C dx fs v, V.ref g.p = .ref a ∧ H a = some (.ins C dx fs) ∧ Cls K C ∧ NoAttr K C ("counting" : Str) ∧ fs.lookup ("counting" : Str) = some v ∧ R v :=
  ⟨_, _, _, _, _, rfl, hg.ob, T.c_House, T.n_House_counting, house_counting g, q⟩
theorem Tp.hr_staff (T : Tp P w K mg base) {H : Hp} {g : HG} (hg : HouseAt K H g) {R : V → Prop} (q : R (V.ref g.sd)) : ∃ a C dx fs v, V.ref g.p = .ref a ∧ H a = some (.ins C dx fs) ∧ Cls K C ∧ NoAttr K C ("staff" : Str) ∧ fs.lookup ("staff" : Str) = some v ∧ R v :=
  ⟨_, _, _, _, _, rfl, hg.ob, T.c_House, T.n_House_staff, house_staff g, q⟩
theorem Tp.hr_clocks (T : Tp P w K mg base) {H : Hp} {g : HG} (hg : HouseAt K H g) {R : V → Prop} (q : R (V.ref g.cl)) : ∃ a C dx fs v, V.ref g.p = .ref a ∧ H a = some (.ins C dx fs) ∧ Cls K C ∧ NoAttr K C ("clocks" : Str) ∧ fs.lookup ("clocks" : Str) = some v ∧ R v :=
  ⟨_, _, _, _, _, rfl, hg.ob, T.c_House, T.n_House_clocks, house_clocks g, q⟩
theorem Tp.hr_entries (T : Tp P w K mg base) {H : Hp} {g : HG} (hg : HouseAt K H g) {R : V → Prop} (q : R (V.ref g.el)) : ∃ a C dx fs v, V.ref g.p = .ref a ∧ H a = some (.ins C dx fs) ∧ Cls K C ∧ NoAttr K C ("entries" : Str) ∧ fs.lookup ("entries" : Str) = some v ∧ R v :=
  ⟨_, _, _, _, _, rfl, hg.ob, T.c_House, T.n_House_entries, house_entries g, q⟩
theorem Tp.mr_rows (T : Tp P w K mg base) {H : Hp} {g : HG} (hg : HouseAt K H g) {R : V → Prop} (q : R (.ref g.rd)) : ∃ a C dx fs v, V.ref g.lim = .ref a ∧ H a = some (.ins C dx fs) ∧ Cls K C ∧ NoAttr K C ("rows" : Str) ∧ fs.lookup ("rows" : Str) = some v ∧ R v :=
  ⟨_, _, _, _, _, rfl, hg.lim, T.c_Limits, T.n_Limits_rows, by kernel_rfl, q⟩
theorem Tp.jw_until (T : Tp P w K mg base) {H : Hp} {g : JobG} (hg : JobAt K H g) (z : Int) {R : Hp → Prop} (q : R (upd H g.a (.ins (cJ K) g.dx (jobFs (g.W { g.toJobS with til := z }))))) : ∃ a C dx fs, V.ref g.a = .ref a ∧ H a = some (.ins C dx fs) ∧ Cls K C ∧ NoAttr K C ("until" : Str) ∧ fs.length < 1000 ∧ R (upd H a (.ins C dx (putF ("until" : Str) (V.int z) fs))) :=
  ⟨_, _, _, _, rfl, hg.ob, T.c_Job, T.n_Job_until, by show 11 < 1000; decide, by rw [job_put_until]; exact q⟩
theorem Tp.jw_done_steps (T : Tp P w K mg base) {H : Hp} {g : JobG} (hg : JobAt K H g) (z : Nat) {R : Hp → Prop} (q : R (upd H g.a (.ins (cJ K) g.dx (jobFs (g.W { g.toJobS with fin := z }))))) : ∃ a C dx fs, V.ref g.a = .ref a ∧ H a = some (.ins C dx fs) ∧ Cls K C ∧ NoAttr K C ("done_steps" : Str) ∧ fs.length < 1000 ∧ R (upd H a (.ins C dx (putF ("done_steps" : Str) (V.int (z : Nat)) fs))) :=
  ⟨_, _, _, _, rfl, hg.ob, T.c_Job, T.n_Job_done_steps, by show 11 < 1000; decide, by rw [job_put_done_steps]; exact q⟩
theorem Tp.jw_tries (T : Tp P w K mg base) {H : Hp} {g : JobG} (hg : JobAt K H g) (z : Nat) {R : Hp → Prop} (q : R (upd H g.a (.ins (cJ K) g.dx (jobFs (g.W { g.toJobS with tries := z }))))) : ∃ a C dx fs, V.ref g.a = .ref a ∧ H a = some (.ins C dx fs) ∧ Cls K C ∧ NoAttr K C ("tries" : Str) ∧ fs.length < 1000 ∧ R (upd H a (.ins C dx (putF ("tries" : Str) (V.int (z : Nat)) fs))) :=
  ⟨_, _, _, _, rfl, hg.ob, T.c_Job, T.n_Job_tries, by show 11 < 1000; decide, by rw [job_put_tries]; exact q⟩
theorem Tp.jw_share (T : Tp P w K mg base) {H : Hp} {g : JobG} (hg : JobAt K H g) (z : Int) {R : Hp → Prop} (q : R (upd H g.a (.ins (cJ K) g.dx (jobFs (g.W { g.toJobS with share := z }))))) : ∃ a C dx fs, V.ref g.a = .ref a ∧ H a = some (.ins C dx fs) ∧ Cls K C ∧ NoAttr K C ("share" : Str) ∧ fs.length < 1000 ∧ R (upd H a (.ins C dx (putF ("share" : Str) (V.int z) fs))) :=
  ⟨_, _, _, _, rfl, hg.ob, T.c_Job, T.n_Job_share, by show 11 < 1000; decide, by rw [job_put_share]; exact q⟩
theorem Tp.jw_ended (T : Tp P w K mg base) {H : Hp} {g : JobG} (hg : JobAt K H g) (z : Option Str) {R : Hp → Prop} (q : R (upd H g.a (.ins (cJ K) g.dx (jobFs (g.W { g.toJobS with ended := z }))))) : ∃ a C dx fs, V.ref g.a = .ref a ∧ H a = some (.ins C dx fs) ∧ Cls K C ∧ NoAttr K C ("ended" : Str) ∧ fs.length < 1000 ∧ R (upd H a (.ins C dx (putF ("ended" : Str) (optS z) fs))) :=
  ⟨_, _, _, _, rfl, hg.ob, T.c_Job, T.n_Job_ended, by show 11 < 1000; decide, by rw [job_put_ended]; exact q⟩
theorem Tp.jw_held (T : Tp P w K mg base) {H : Hp} {g : JobG} (hg : JobAt K H g) (z : Option Nat) {R : Hp → Prop} (q : R (upd H g.a (.ins (cJ K) g.dx (jobFs (g.W { g.toJobS with held := z }))))) : ∃ a C dx fs, V.ref g.a = .ref a ∧ H a = some (.ins C dx fs) ∧ Cls K C ∧ NoAttr K C ("held" : Str) ∧ fs.length < 1000 ∧ R (upd H a (.ins C dx (putF ("held" : Str) (optN z) fs))) :=
  ⟨_, _, _, _, rfl, hg.ob, T.c_Job, T.n_Job_held, by show 11 < 1000; decide, by rw [job_put_held]; exact q⟩
theorem Tp.jw_free_at (T : Tp P w K mg base) {H : Hp} {g : JobG} (hg : JobAt K H g) (z : Int) {R : Hp → Prop} (q : R (upd H g.a (.ins (cJ K) g.dx (jobFs (g.W { g.toJobS with free := z }))))) : ∃ a C dx fs, V.ref g.a = .ref a ∧ H a = some (.ins C dx fs) ∧ Cls K C ∧ NoAttr K C ("free_at" : Str) ∧ fs.length < 1000 ∧ R (upd H a (.ins C dx (putF ("free_at" : Str) (V.int z) fs))) :=
  ⟨_, _, _, _, rfl, hg.ob, T.c_Job, T.n_Job_free_at, by show 11 < 1000; decide, by rw [job_put_free_at]; exact q⟩
theorem Tp.ew_until (T : Tp P w K mg base) {H : Hp} {g : LeaseG} (hg : LeaseAt K H g) (z : Int) {R : Hp → Prop} (q : R (upd H g.a (.ins (cE K) g.dx (leaseFs (g.W { g.toLeaseS with til := z }))))) : ∃ a C dx fs, V.ref g.a = .ref a ∧ H a = some (.ins C dx fs) ∧ Cls K C ∧ NoAttr K C ("until" : Str) ∧ fs.length < 1000 ∧ R (upd H a (.ins C dx (putF ("until" : Str) (V.int z) fs))) :=
  ⟨_, _, _, _, rfl, hg.ob, T.c_Lease, T.n_Lease_until, by show 5 < 1000; decide, by rw [lease_put_until]; exact q⟩
theorem Tp.cw_coming (T : Tp P w K mg base) {H : Hp} {g : ClockG} (hg : ClockAt K H g) (z : Int) {R : Hp → Prop} (q : R (upd H g.a (.ins (cC K) g.dx (clockFs (g.W { g.toClockS with coming := z }))))) : ∃ a C dx fs, V.ref g.a = .ref a ∧ H a = some (.ins C dx fs) ∧ Cls K C ∧ NoAttr K C ("coming" : Str) ∧ fs.length < 1000 ∧ R (upd H a (.ins C dx (putF ("coming" : Str) (V.int z) fs))) :=
  ⟨_, _, _, _, rfl, hg.ob, T.c_Clock, T.n_Clock_coming, by show 6 < 1000; decide, by rw [clock_put_coming]; exact q⟩
theorem Tp.cw_left (T : Tp P w K mg base) {H : Hp} {g : ClockG} (hg : ClockAt K H g) (z : Int) {R : Hp → Prop} (q : R (upd H g.a (.ins (cC K) g.dx (clockFs (g.W { g.toClockS with left := z }))))) : ∃ a C dx fs, V.ref g.a = .ref a ∧ H a = some (.ins C dx fs) ∧ Cls K C ∧ NoAttr K C ("left" : Str) ∧ fs.length < 1000 ∧ R (upd H a (.ins C dx (putF ("left" : Str) (V.int z) fs))) :=
  ⟨_, _, _, _, rfl, hg.ob, T.c_Clock, T.n_Clock_left, by show 6 < 1000; decide, by rw [clock_put_left]; exact q⟩
theorem Tp.hw_here (T : Tp P w K mg base) {H : Hp} {g : HG} (hg : HouseAt K H g) (z : Int) {R : Hp → Prop} (q : R (upd H g.p (.ins (cH K) g.dx (houseFs { g with here := z })))) : ∃ a C dx fs, V.ref g.p = .ref a ∧ H a = some (.ins C dx fs) ∧ Cls K C ∧ NoAttr K C ("here" : Str) ∧ fs.length < 1000 ∧ R (upd H a (.ins C dx (putF ("here" : Str) (V.int z) fs))) :=
  ⟨_, _, _, _, rfl, hg.ob, T.c_House, T.n_House_here, by show 12 < 1000; decide, by rw [house_put_here]; exact q⟩
theorem Tp.hw_given (T : Tp P w K mg base) {H : Hp} {g : HG} (hg : HouseAt K H g) (z : Nat) {R : Hp → Prop} (q : R (upd H g.p (.ins (cH K) g.dx (houseFs { g with given := z })))) : ∃ a C dx fs, V.ref g.p = .ref a ∧ H a = some (.ins C dx fs) ∧ Cls K C ∧ NoAttr K C ("given" : Str) ∧ fs.length < 1000 ∧ R (upd H a (.ins C dx (putF ("given" : Str) (V.int (z : Nat)) fs))) :=
  ⟨_, _, _, _, rfl, hg.ob, T.c_House, T.n_House_given, by show 12 < 1000; decide, by rw [house_put_given]; exact q⟩
theorem JobAt.put {H : Hp} {g : JobG} (hg : JobAt K H g) {j : JobS} (es : j.steps = g.steps) (en : j.needs = g.needs) : JobAt K (upd H g.a (.ins (cJ K) g.dx (jobFs (g.W j)))) (g.W j) := by
  have k := KeepT.upd (K := K) (o := .ins (cJ K) g.dx (jobFs (g.W j))) hg.ob trivial
  refine ⟨upd_same, ?_, ?_⟩
  · show SqT K _ g.t (vstrs j.steps)
    rw [es]
    exact k _ _ hg.st
  · show SqT K _ g.n (vnats j.needs)
    rw [en]
    exact k _ _ hg.ne
theorem Tp.ja_tries (T : Tp P w K mg base) {H : Hp} {g : JobG} (hg : JobAt K H g) {R : Addr → Addr → V → Prop} (q : R g.a (cJ K) (V.int (g.tries : Nat))) : ∃ a C dx fs v, V.ref g.a = .ref a ∧ H a = some (.ins C dx fs) ∧ Cls K C ∧ NoAttr K C ("tries" : Str) ∧ fs.lookup ("tries" : Str) = some v ∧ R a C v :=
  ⟨_, _, _, _, _, rfl, hg.ob, T.c_Job, T.n_Job_tries, job_tries g, q⟩
theorem jp_tries {K : PySem.W.Frag} {H : Hp} {g : JobG} (hg : JobAt K H g) {i : Int} (z : Nat) (e : i = (z : Int)) {R : Hp → Prop} (q : R (upd H g.a (.ins (cJ K) g.dx (jobFs (g.W { g.toJobS with tries := z }))))) : ∃ dx fs, H g.a = some (.ins (cJ K) dx fs) ∧ fs.length < 1000 ∧ R (upd H g.a (.ins (cJ K) dx (putF ("tries" : Str) (V.int i) fs))) :=
  ⟨_, _, hg.ob, by show 11 < 1000; decide, by rw [e, job_put_tries]; exact q⟩
theorem Tp.ja_done_steps (T : Tp P w K mg base) {H : Hp} {g : JobG} (hg : JobAt K H g) {R : Addr → Addr → V → Prop} (q : R g.a (cJ K) (V.int (g.fin : Nat))) : ∃ a C dx fs v, V.ref g.a = .ref a ∧ H a = some (.ins C dx fs) ∧ Cls K C ∧ NoAttr K C ("done_steps" : Str) ∧ fs.lookup ("done_steps" : Str) = some v ∧ R a C v :=
  ⟨_, _, _, _, _, rfl, hg.ob, T.c_Job, T.n_Job_done_steps, job_done_steps g, q⟩
theorem jp_done_steps {K : PySem.W.Frag} {H : Hp} {g : JobG} (hg : JobAt K H g) {i : Int} (z : Nat) (e : i = (z : Int)) {R : Hp → Prop} (q : R (upd H g.a (.ins (cJ K) g.dx (jobFs (g.W { g.toJobS with fin := z }))))) : ∃ dx fs, H g.a = some (.ins (cJ K) dx fs) ∧ fs.length < 1000 ∧ R (upd H g.a (.ins (cJ K) dx (putF ("done_steps" : Str) (V.int i) fs))) :=
  ⟨_, _, hg.ob, by show 11 < 1000; decide, by rw [e, job_put_done_steps]; exact q⟩
theorem Tp.ca_coming (T : Tp P w K mg base) {H : Hp} {g : ClockG} (hg : ClockAt K H g) {R : Addr → Addr → V → Prop} (q : R g.a (cC K) (V.int (g.coming : Int))) : ∃ a C dx fs v, V.ref g.a = .ref a ∧ H a = some (.ins C dx fs) ∧ Cls K C ∧ NoAttr K C ("coming" : Str) ∧ fs.lookup ("coming" : Str) = some v ∧ R a C v :=
  ⟨_, _, _, _, _, rfl, hg.ob, T.c_Clock, T.n_Clock_coming, clock_coming g, q⟩
theorem cp_coming {K : PySem.W.Frag} {H : Hp} {g : ClockG} (hg : ClockAt K H g) {i : Int} (z : Int) (e : i = (z : Int)) {R : Hp → Prop} (q : R (upd H g.a (.ins (cC K) g.dx (clockFs (g.W { g.toClockS with coming := z }))))) : ∃ dx fs, H g.a = some (.ins (cC K) dx fs) ∧ fs.length < 1000 ∧ R (upd H g.a (.ins (cC K) dx (putF ("coming" : Str) (V.int i) fs))) :=
  ⟨_, _, hg.ob, by show 6 < 1000; decide, by rw [e, clock_put_coming]; exact q⟩
theorem Tp.ca_left (T : Tp P w K mg base) {H : Hp} {g : ClockG} (hg : ClockAt K H g) {R : Addr → Addr → V → Prop} (q : R g.a (cC K) (V.int (g.left : Int))) : ∃ a C dx fs v, V.ref g.a = .ref a ∧ H a = some (.ins C dx fs) ∧ Cls K C ∧ NoAttr K C ("left" : Str) ∧ fs.lookup ("left" : Str) = some v ∧ R a C v :=
  ⟨_, _, _, _, _, rfl, hg.ob, T.c_Clock, T.n_Clock_left, clock_left g, q⟩
theorem cp_left {K : PySem.W.Frag} {H : Hp} {g : ClockG} (hg : ClockAt K H g) {i : Int} (z : Int) (e : i = (z : Int)) {R : Hp → Prop} (q : R (upd H g.a (.ins (cC K) g.dx (clockFs (g.W { g.toClockS with left := z }))))) : ∃ dx fs, H g.a = some (.ins (cC K) dx fs) ∧ fs.length < 1000 ∧ R (upd H g.a (.ins (cC K) dx (putF ("left" : Str) (V.int i) fs))) :=
  ⟨_, _, hg.ob, by show 6 < 1000; decide, by rw [e, clock_put_left]; exact q⟩
theorem Tp.ha_given (T : Tp P w K mg base) {H : Hp} {g : HG} (hg : HouseAt K H g) {R : Addr → Addr → V → Prop} (q : R g.p (cH K) (V.int (g.given : Nat))) : ∃ a C dx fs v, V.ref g.p = .ref a ∧ H a = some (.ins C dx fs) ∧ Cls K C ∧ NoAttr K C ("given" : Str) ∧ fs.lookup ("given" : Str) = some v ∧ R a C v :=
  ⟨_, _, _, _, _, rfl, hg.ob, T.c_House, T.n_House_given, house_given g, q⟩
theorem hp_given {K : PySem.W.Frag} {H : Hp} {g : HG} (hg : HouseAt K H g) {i : Int} (z : Nat) (e : i = (z : Int)) {R : Hp → Prop} (q : R (upd H g.p (.ins (cH K) g.dx (houseFs { g with given := z })))) : ∃ dx fs, H g.p = some (.ins (cH K) dx fs) ∧ fs.length < 1000 ∧ R (upd H g.p (.ins (cH K) dx (putF ("given" : Str) (V.int i) fs))) :=
  ⟨_, _, hg.ob, by show 12 < 1000; decide, by rw [e, house_put_given]; exact q⟩
/-- a call's beginning: the method of a thing of ours -/
theorem jm {H : Hp} {g : JobG} (hg : JobAt K H g) {m : Str} {R : Prop} (hm : (jobFs g).lookup m = none) (q : R) : ∃ a dx fs, V.ref g.a = .ref a ∧ H a = some (.ins (cJ K) dx fs) ∧ fs.lookup m = none ∧ R := ⟨_, _, _, rfl, hg.ob, hm, q⟩
theorem em {H : Hp} {g : LeaseG} (hg : LeaseAt K H g) {m : Str} {R : Prop} (hm : (leaseFs g).lookup m = none) (q : R) : ∃ a dx fs, V.ref g.a = .ref a ∧ H a = some (.ins (cE K) dx fs) ∧ fs.lookup m = none ∧ R := ⟨_, _, _, rfl, hg.ob, hm, q⟩
theorem hm {H : Hp} {g : HG} (hg : HouseAt K H g) {m : Str} {R : Prop} (hm : (houseFs g).lookup m = none) (q : R) : ∃ a dx fs, V.ref g.p = .ref a ∧ H a = some (.ins (cH K) dx fs) ∧ fs.lookup m = none ∧ R := ⟨_, _, _, rfl, hg.ob, hm, q⟩
theorem mm {H : Hp} {g : HG} (hg : HouseAt K H g) {m : Str} {R : Prop} (hm : ([("rows", .ref g.rd)] : List (Str × V)).lookup m = none) (q : R) : ∃ a dx fs, V.ref g.lim = .ref a ∧ H a = some (.ins (cM K) dx fs) ∧ fs.lookup m = none ∧ R := ⟨_, _, _, rfl, hg.lim, hm, q⟩
end
end LH
end

section
set_option Elab.async false
set_option linter.all false
set_option maxRecDepth 100000
set_option maxHeartbeats 4000000
/-! comprehensions that read -/
namespace LH
open PySem PySem.Spec PyProof.Rows L2
theorem opI {r : R2} {ta tb : TE} {σ : L2.St} {H : Hp} {Q : VK} (h : ta σ H fun x H1 => tb σ H1 fun y H2 => r x y H2 Q) : tOp r ta tb σ H Q := h
theorem gnI {i : Nat} {x : V} {σ : L2.St} {H : Hp} {Q : L2.St → Hp → Prop} (h : Q (σ.set i (some x)) H) : gName i x σ H Q := h
theorem rtI {te : TE} {D : Ends} {σ : L2.St} {H : Hp} (h : te σ H D.rt) : tRet te D σ H := h
theorem Same.rfl' {H : Hp} : Same H H := fun _ _ e => e
theorem Same.trans' {H1 H2 H3 : Hp} (a : Same H1 H2) (b : Same H2 H3) : Same H1 H3 := fun c o e => b c o (a c o e)
theorem same_new {H : Hp} {a : Addr} {o : HO} (n : H a = none) : Same H (upd H a o) := same_upd n
theorem Same.put {H1 H : Hp} {a : Addr} {o : HO} (s : Same H1 H) (n : H1 a = none) : Same H1 (upd H a o) := fun b u e => by
  have ne : b ≠ a := fun z => by rw [z, n] at e; cases e
  rw [upd_ne ne]
  exact s b u e
theorem sqL_same {K : PySem.W.Frag} {H H' : Hp} {a : Addr} {xs : List V} (q : SqL K H a xs) (s : Same H H') : SqL K H' a xs := by
  rcases q with (e | ⟨ob, e⟩) | q
  · exact .inl (.inl (s _ _ e))
  · exact .inl (.inr ⟨ob, s _ _ e⟩)
  · exact .inr q
theorem take_fm {α β : Type} (h : α → Option β) (l : List α) {i : Nat} {a : α} (e : l[i]? = some a) : (l.take (i + 1)).filterMap h = (l.take i).filterMap h ++ (h a).toList := by
  rw [List.take_succ, e, List.filterMap_append]
  cases hh : h a <;> simp [hh]
section
variable {α : Type} {J : It} {n : Nat} {G : Hp → Prop} {Y : Nat → Hp → V → Hp → Prop}
/-- a comprehension whose turns change nothing that stood -/
theorem lcS (w : Walk J n G Y) {g : TG} {tt : L2.TT} {te : TE} {vs : List Nat} {σ : L2.St} {H1 : Hp} {D : Addr} {Qd : Hp → Prop} (l : List α) (h : α → Option V) (el : l.length = n) (hz : n < sizeLine) (hn : H1 D = none) (hG : ∀ H, Same H1 H → G H)
    (hs : ∀ (i : Nat) (a : α) (x : V) (H H' : Hp) (R : VK) (R0 : Hp → Prop), l[i]? = some a → Same H1 H → Y i H x H' → (∀ y H4, h a = some y → Same H H4 → R y H4) → (∀ H3, h a = none → Same H H3 → R0 H3) →
      g x (wipe σ vs) H' fun σ2 H2 => wipe σ2 vs = wipe σ vs ∧ tt σ2 H2 fun b H3 => if b = true then te σ2 H3 R else R0 H3)
    (hd : ∀ H, Same H1 H → H D = some (.lst (l.filterMap h)) → Qd H) :
    ∃ W : Nat → Nat → Hp → Prop, (∃ m, W 0 m (upd H1 D (.lst []))) ∧ ∀ i m H, W i m H →
      (J.stop i H ∧ Qd H) ∨ (J.go i H ∧ ∃ Nx : Hp → Prop, (∀ H', Nx H' → ∃ m', m' < m ∧ W (i + 1) m' H') ∧ ∀ x H', J.yld i H x H' → g x (wipe σ vs) H' fun σ2 H2 => wipe σ2 vs = wipe σ vs ∧ tt σ2 H2 fun b H3 =>
        if b = true then te σ2 H3 fun y H4 => ∃ acc, H4 D = some (.lst acc) ∧ acc.length < sizeLine ∧ Nx (upd H4 D (.lst (acc ++ [y]))) else Nx H3) := by
  refine lc_it w (fun i H => Same H1 H ∧ H D = some (.lst ((l.take i).filterMap h))) ⟨same_new hn, by rw [upd_same]; simp⟩ (fun i H _ q => hG H q.1) ?_ ?_
  · intro i x H H' hi ⟨q1, q2⟩ y
    obtain ⟨a, ea⟩ : ∃ a, l[i]? = some a := ⟨l[i]'(by omega), by simp [show i < l.length by omega]⟩
    have e1 := take_fm h l ea
    refine hs i a x H H' _ _ ea q1 y (fun y H4 hh s4 => ?_) fun H3 hh s3 => ?_
    · refine ⟨_, s4 _ _ q2, ?_, Same.put (Same.trans' q1 s4) hn, ?_⟩
      · have h1 := List.length_filterMap_le h (l.take i)
        have h2 := List.length_take_le i l
        omega
      · rw [upd_same, e1, hh]
        rfl
    · refine ⟨Same.trans' q1 s3, ?_⟩
      rw [e1, hh, Option.toList, List.append_nil]
      exact s3 _ _ q2
  · intro H ⟨q1, q2⟩
    refine hd H q1 ?_
    rw [← el, List.take_length] at q2
    exact q2
end
section
variable {α : Type} {K : PySem.W.Frag} {a : Addr} {g : TG} {tt : L2.TT} {te : TE} {vs : List Nat} {σ : L2.St} {H : Hp} {Q : VK}
/-- over a list -/
theorem lcL {Qd : Addr → Hp → Prop} {xs : List V} (l : List α) (val : α → V) (h : α → Option V) (ex : xs = l.map val) (hx : SqL K H a xs) (hz : l.length < sizeLine)
    (hs : ∀ (i : Nat) (b : α) (Hc : Hp) (R : VK) (R0 : Hp → Prop), l[i]? = some b → Same H Hc → (∀ y H4, h b = some y → Same Hc H4 → R y H4) → (∀ H3, h b = none → Same Hc H3 → R0 H3) →
      g (val b) (wipe σ vs) Hc fun σ2 H2 => wipe σ2 vs = wipe σ vs ∧ tt σ2 H2 fun b H3 => if b = true then te σ2 H3 R else R0 H3)
    (hd : ∀ D H', H D = none → Same H H' → H' D = some (.lst (l.filterMap h)) → Qd D H') :
    ∀ D, H D = none → ∃ W : Nat → Nat → Hp → Prop, (∃ m, W 0 m (upd H D (.lst []))) ∧ ∀ i m H, W i m H →
      ((Itl K a).stop i H ∧ Qd D H) ∨ ((Itl K a).go i H ∧ ∃ Nx : Hp → Prop, (∀ H', Nx H' → ∃ m', m' < m ∧ W (i + 1) m' H') ∧ ∀ x H', (Itl K a).yld i H x H' → g x (wipe σ vs) H' fun σ2 H2 => wipe σ2 vs = wipe σ vs ∧ tt σ2 H2 fun b H3 =>
        if b = true then te σ2 H3 fun y H4 => ∃ acc, H4 D = some (.lst acc) ∧ acc.length < sizeLine ∧ Nx (upd H4 D (.lst (acc ++ [y]))) else Nx H3) := by
  intro D hn
  subst ex
  refine lcS (walk_list (xs := l.map val)) l h (by simp) (by simpa using hz) hn (fun H' s => sqL_same hx s) ?_ fun H' s e => hd D H' hn s e
  rintro i b x Hc Hc' R R0 eb s ⟨rfl, ey⟩ h1 h2
  rw [List.getElem?_map, eb] at ey
  obtain rfl : val b = x := Option.some.inj ey
  exact hs i b _ R R0 eb s h1 h2
/-- over a tuple -/
theorem lcT {Qd : Addr → Hp → Prop} {xs : List V} (l : List α) (val : α → V) (h : α → Option V) (ex : xs = l.map val) (hx : SqT K H a xs) (hz : l.length < sizeLine)
    (hs : ∀ (i : Nat) (b : α) (Hc : Hp) (R : VK) (R0 : Hp → Prop), l[i]? = some b → Same H Hc → (∀ y H4, h b = some y → Same Hc H4 → R y H4) → (∀ H3, h b = none → Same Hc H3 → R0 H3) →
      g (val b) (wipe σ vs) Hc fun σ2 H2 => wipe σ2 vs = wipe σ vs ∧ tt σ2 H2 fun b H3 => if b = true then te σ2 H3 R else R0 H3)
    (hd : ∀ D H', H D = none → Same H H' → H' D = some (.lst (l.filterMap h)) → Qd D H') :
    ∀ D, H D = none → ∃ W : Nat → Nat → Hp → Prop, (∃ m, W 0 m (upd H D (.lst []))) ∧ ∀ i m H, W i m H →
      ((Itt K a).stop i H ∧ Qd D H) ∨ ((Itt K a).go i H ∧ ∃ Nx : Hp → Prop, (∀ H', Nx H' → ∃ m', m' < m ∧ W (i + 1) m' H') ∧ ∀ x H', (Itt K a).yld i H x H' → g x (wipe σ vs) H' fun σ2 H2 => wipe σ2 vs = wipe σ vs ∧ tt σ2 H2 fun b H3 =>
        if b = true then te σ2 H3 fun y H4 => ∃ acc, H4 D = some (.lst acc) ∧ acc.length < sizeLine ∧ Nx (upd H4 D (.lst (acc ++ [y]))) else Nx H3) := by
  intro D hn
  subst ex
  refine lcS (walk_tup (xs := l.map val)) l h (by simp) (by simpa using hz) hn (fun H' s => KeepT.same s _ _ hx) ?_ fun H' s e => hd D H' hn s e
  rintro i b x Hc Hc' R R0 eb s ⟨rfl, ey⟩ h1 h2
  rw [List.getElem?_map, eb] at ey
  obtain rfl : val b = x := Option.some.inj ey
  exact hs i b _ R R0 eb s h1 h2
/-- over the values of a dict, locked meanwhile -/
theorem lcV {d : Addr} {kvs : List (Key × V)} {td : TE} (l : List α) (val : α → V) (h : α → Option V) (ex : kvs.map (·.2) = l.map val) (hd0 : H d = some (.dK kvs)) (hz : l.length < sizeLine)
    (htd : ∀ od R, R (.ref d) (upd H d (.frz od (.dK kvs))) → td σ (upd H d (.frz od (.dK kvs))) R)
    (hs : ∀ (od : Obj) (i : Nat) (b : α) (Hc : Hp) (R : VK) (R0 : Hp → Prop), l[i]? = some b → Same (upd H d (.frz od (.dK kvs))) Hc → (∀ y H4, h b = some y → Same Hc H4 → R y H4) → (∀ H3, h b = none → Same Hc H3 → R0 H3) →
      g (val b) (wipe σ vs) Hc fun σ2 H2 => wipe σ2 vs = wipe σ vs ∧ tt σ2 H2 fun b H3 => if b = true then te σ2 H3 R else R0 H3)
    (hd : ∀ D H', H D = none → Same H H' → H' D = some (.lst (l.filterMap h)) → Q (.ref D) H') : tLockE (tLc (iVals td) g tt te vs) σ H Q := by
  refine ⟨d, .dK kvs, hd0, trivial, fun od => htd od _ ⟨d, od, kvs, rfl, upd_same, fun D hn => ?_⟩⟩
  have hl : kvs.length = l.length := by simpa using congrArg List.length ex
  have hnd : D ≠ d := fun z => by rw [z, upd_same] at hn; cases hn
  have hn' : H D = none := by rw [upd_ne hnd] at hn; exact hn
  refine lcS (walk_values (kvs := kvs)) l h hl.symm (by omega) hn (fun H' s => s _ _ upd_same) ?_ fun H' s e => ⟨s _ _ upd_same, hd D _ hn' ?_ ?_⟩
  · rintro i b x Hc Hc' R R0 eb s ⟨rfl, k, ey⟩ h1 h2
    have e2 : (kvs.map (·.2))[i]? = some x := by rw [List.getElem?_map, ey]; rfl
    rw [ex, List.getElem?_map, eb] at e2
    obtain rfl : val b = x := Option.some.inj e2
    exact hs od i b _ R R0 eb s h1 h2
  · intro b o e
    by_cases z : b = d
    · subst z
      rw [hd0] at e
      rw [upd_same, e]
    · rw [upd_ne z]
      exact s _ _ (by rw [upd_ne z]; exact e)
  · rw [upd_ne hnd]
    exact e
end
end LH
end

section
set_option Elab.async false
set_option linter.all false
set_option maxRecDepth 100000
set_option maxHeartbeats 4000000
/-! enumerate over a tuple -/
namespace LH
open PySem PySem.Spec PyProof.Rows L2
open PySem.Sem (wp)
open PySem.AutoSeq1 (wpAny_loadPart')
section
variable {prog : Program} {w : World} {A : Around} {E : Value → Shared → Prop} {s : Shared}
theorem nextT_item {ti tp : Addr} {i : Nat} {its0} {x : Value} {Q : Value → Shared → Prop} (hti : s.heap.IsTupleIter ti tp i)
    (htl : s.heap.IsTuple tp its0) (hxx : its0[i]? = some x)
    (hqq : ∀ h', h'.IsTupleIter ti tp (i + 1) → Heap.SameBut ti s.heap h' → Q x { s with heap := h' }) :
    wpAny (model prog w) A (Builtin.SmallTypes.nextOf (.ref ti)) Q E s := by
  obtain ⟨o, hob, hc, hda⟩ := id hti
  obtain ⟨ol, hot, _, nt, hdt⟩ := htl
  unfold Builtin.SmallTypes.nextOf
  refine wpAny_bind (wpAny_callSpecial?_slot (name := Str.ofString "__next__") hti.typeIs F.slot_tuple_iterator_next
    (wpAny_call_entry F.slot_tuple_iterator_next hti.typeIs F.entry_tuple_iterator_next ?_ (F.args_tuple_iterator_next_1 _)))
  show wpAny _ _ (field (.ref ti) 0 >>= _) _ _ s
  refine wpAny_bind (wpAny_field hob hda (x := .ref tp) rfl ?_)
  show wpAny _ _ (if (Value.ref tp == Value.none) = true then _ else _) _ _ s
  rw [if_neg (show ¬ ((Value.ref tp == Value.none) = true) from Bool.false_ne_true)]
  show wpAny _ _ (field (.ref ti) 1 >>= _) _ _ s
  refine wpAny_bind (wpAny_field hob hda (x := .int i 0) rfl ?_)
  show wpAny _ _ (seqItems? (.ref tp) >>= _) _ _ s
  refine wpAny_bind (wpAny_seqItems hot hdt ?_)
  simp only [Int.toNat_natCast, hxx]
  refine wpAny_bind (wpAny_setField hob hda (by simp) (wpAny_pure ⟨x, rfl, wpAny_pure (hqq _ ?_ (Heap.SameBut.update ..))⟩))
  exact ⟨_, Heap.get?_update_self _ hob (Obj.isFreed_of_fields (Obj.data_mapFields hda _)), (Obj.cls_mapFields ..).trans hc, by
    rw [Obj.data_mapFields hda]; simp [rawInt]⟩

theorem nextT_end {ti tp : Addr} {i : Nat} {its0} {Q : Value → Shared → Prop} (hh : A.handled = none)
    (hti : s.heap.IsTupleIter ti tp i) (htl : s.heap.IsTuple tp its0) (hxx : its0[i]? = none)
    (hE : ∀ h' en, Heap.ExtBut ti s.heap h' → (∃ o, h'.get? en = some o ∧ o.cls = .type "StopIteration") → E (.ref en) { s with heap := h' }) :
    wpAny (model prog w) A (Builtin.SmallTypes.nextOf (.ref ti)) Q E s := by
  obtain ⟨o, hob, hc, hda⟩ := id hti
  obtain ⟨ol, hot, _, nt, hdt⟩ := htl
  unfold Builtin.SmallTypes.nextOf
  refine wpAny_bind (wpAny_callSpecial?_slot (name := Str.ofString "__next__") hti.typeIs F.slot_tuple_iterator_next
    (wpAny_call_entry F.slot_tuple_iterator_next hti.typeIs F.entry_tuple_iterator_next ?_ (F.args_tuple_iterator_next_1 _)))
  show wpAny _ _ (field (.ref ti) 0 >>= _) _ _ s
  refine wpAny_bind (wpAny_field hob hda (x := .ref tp) rfl ?_)
  show wpAny _ _ (if (Value.ref tp == Value.none) = true then _ else _) _ _ s
  rw [if_neg (show ¬ ((Value.ref tp == Value.none) = true) from Bool.false_ne_true)]
  show wpAny _ _ (field (.ref ti) 1 >>= _) _ _ s
  refine wpAny_bind (wpAny_field hob hda (x := .int i 0) rfl ?_)
  show wpAny _ _ (seqItems? (.ref tp) >>= _) _ _ s
  refine wpAny_bind (wpAny_seqItems hot hdt ?_)
  simp only [Int.toNat_natCast, hxx]
  refine wpAny_bind (wpAny_rule (wpAny_bind (wpAny_setField hob hda (by simp) ?_)))
  show wpAny _ _ (newExc (.type "StopIteration") [] >>= _) _ _ _
  refine wpAny_bind ?_
  simp only [newExc, newTuple]
  refine wpAny_bind (wpAny_newObj_type ?_ (by size_fits))
  refine wpAny_bind (m := firstArgMember _ _) (wpAny_of_eq (a := Value.none) (by first | rfl | (simp only [firstArgMember]; rfl)) ?_)
  refine wpAny_newObj_type ?_ (by size_fits)
  simp only [raiseNew]
  refine wpAny_bind (wpAny_handled ?_)
  first | rw [show A.in1.handled = none from hh] | rw [hh]
  refine wpAny_bind (wpAny_pure (wpAny_throw ?_))
  exact hE _ _ (((Heap.SameBut.update ..).extBut.push _).push _) ⟨_, Heap.get?_push_size _ rfl, rfl⟩

theorem enumT_next {en ti tp : Addr} {i : Nat} {its0 : Array Value} {x old : Value} {Q : Value → Shared → Prop}
    (he : IsEnum s.heap en ti i old) (hti : s.heap.IsTupleIter ti tp i) (htl : s.heap.IsTuple tp its0) (hxx : its0[i]? = some x) (hnn : en ≠ ti)
    (hqq : ∀ h', IsEnumOut h' en ti ((i : Int) + 1) x s.heap.objs.size → h'.IsTupleIter ti tp (i + 1) →
      h'.get? s.heap.objs.size = some { cls := .type "tuple", data := .seq #[.int i s.toks, x] } → h'.objs.size = s.heap.objs.size + 1 →
      (∀ b o, b ≠ en → b ≠ ti → s.heap.get? b = some o → h'.get? b = some o) → Q (.ref s.heap.objs.size) { s with heap := h', toks := s.toks + 1 }) :
    wpAny (model prog w) A (Builtin.«enumerate.__next__» ⟨[.ref en], []⟩) (fun fin s' => ∃ v, fin = .done (.ret v) ∧ Q v s') E s := by
  obtain ⟨hea, ge, dr, tko, oss⟩ := s
  show wpAny _ _ (field (.ref en) 2 >>= _) _ _ _
  refine wpAny_bind (wpAny_field he rfl (x := .ref ti) rfl ?_)
  refine wpAny_bind (nextT_item hti htl hxx fun k1 ti1 s1 => ?_)
  replace s1 : Heap.SameBut ti hea k1 := s1
  have e1 : IsEnum k1 en ti i old := (s1.2 en hnn).trans he
  show wpAny _ _ (field (.ref en) 3 >>= _) _ _ ⟨k1, ge, dr, tko, oss⟩
  refine wpAny_bind (wpAny_field e1 rfl (x := rawInt i) rfl ?_)
  show wpAny _ _ (field (.ref en) 4 >>= _) _ _ ⟨k1, ge, dr, tko, oss⟩
  refine wpAny_bind (wpAny_field e1 rfl (x := .none) rfl ?_)
  show wpAny _ _ (mkInt i >>= _) _ _ ⟨k1, ge, dr, tko, oss⟩
  refine wpAny_bind (wpAny_mkInt ?_)
  show wpAny _ _ (setField (.ref en) 3 (rawInt ((i : Int) + 1)) >>= _) _ _ ⟨k1, ge, dr, tko + 1, oss⟩
  refine wpAny_bind (wpAny_setField_rec e1 (by simp) fun k2 e2 s2 => ?_)
  replace s2 : Heap.SameBut en k1 k2 := s2
  replace e2 : IsEnum k2 en ti ((i : Int) + 1) old := e2
  show wpAny _ _ (setField (.ref en) 4 .none >>= _) _ _ ⟨k2, ge, dr, tko + 1, oss⟩
  refine wpAny_bind (wpAny_setField_rec e2 (by simp) fun k3 e3 s3 => ?_)
  replace s3 : Heap.SameBut en k2 k3 := s3
  replace e3 : IsEnum k3 en ti ((i : Int) + 1) old := e3
  show wpAny _ _ (newTuple [.int i tko, x] >>= _) _ _ ⟨k3, ge, dr, tko + 1, oss⟩
  refine wpAny_bind (wpAny_newTuple ?_)
  have e4 : IsEnum (k3.push { cls := .type "tuple", data := .seq #[.int i tko, x] }) en ti ((i : Int) + 1) old := Heap.get?_push_of_some _ e3
  generalize hh4 : k3.push { cls := .type "tuple", data := .seq #[.int i tko, x] } = k4 at e4
  have hsz : k3.objs.size = hea.objs.size := by rw [s3.1, s2.1, s1.1]
  have hel : en < hea.objs.size := Heap.lt_size he
  have t4 : k4.get? hea.objs.size = some { cls := .type "tuple", data := .seq #[.int i tko, x] } := by rw [← hh4, ← hsz]; exact Heap.get?_push_size _ rfl
  have z4 : k4.objs.size = hea.objs.size + 1 := by rw [← hh4, Heap.size_push, hsz]
  have kk4 : ∀ b o, b ≠ en → b ≠ ti → hea.get? b = some o → k4.get? b = some o := fun b o hbe hbi hb => by
    rw [← hh4]; exact Heap.get?_push_of_some _ (s3.extBut b o hbe (s2.extBut b o hbe (s1.extBut b o hbi hb)))
  have ti4 : k4.IsTupleIter ti tp (i + 1) := by
    rw [← hh4]; obtain ⟨o, hob, r⟩ := (ti1.extBut s2.extBut (Ne.symm hnn)).extBut s3.extBut (Ne.symm hnn); exact ⟨o, Heap.get?_push_of_some _ hob, r⟩
  show wpAny _ _ (Builtin.SmallTypes.ownedTupleIsFree (.ref en) >>= _) _ _ ⟨k4, ge, dr, tko + 1, oss⟩
  rw [hsz]
  clear hh4 e3 s3 e2 s2 e1 s1 ti1 hsz k3 k2 k1
  refine wpAny_bind ?_
  · unfold Builtin.SmallTypes.ownedTupleIsFree
    refine wpAny_bind (wpAny_field e4 rfl (x := .none) rfl (wpAny_pure ?_))
    simp only [if_true]
    refine wpAny_bind (wpAny_rule ?_)
    refine wpAny_bind (wpAny_field e4 rfl (x := old) rfl ?_)
    refine wpAny_bind (wpAny_setField_rec e4 (by simp) fun k5 e5 s5 => ?_)
    replace s5 : Heap.SameBut en k4 k5 := s5
    replace e5 : IsEnum k5 en ti ((i : Int) + 1) x := e5
    show wpAny _ _ (Builtin.SmallTypes.ownedTupleHandOut (.ref en) (.ref hea.objs.size) >>= _) _ _ ⟨k5, ge, dr, tko + 1, oss⟩
    refine wpAny_bind ?_
    · unfold Builtin.SmallTypes.ownedTupleHandOut
      refine wpAny_bind (wpAny_setField_rec e5 (by simp) fun k6 e6 s6 => ?_)
      replace s6 : Heap.SameBut en k5 k6 := s6
      replace e6 : IsEnumOut k6 en ti ((i : Int) + 1) x hea.objs.size := e6
      refine wpAny_setField_rec e6 (by simp) fun k7 e7 s7 => ?_
      replace s7 : Heap.SameBut en k6 k7 := s7
      replace e7 : IsEnumOut k7 en ti ((i : Int) + 1) x hea.objs.size := e7
      refine wpAny_bind (wpAny_letGo (wpAny_pure ⟨_, rfl, hqq k7 e7 ?_ ?_ ?_ ?_⟩))
      · exact ((ti4.extBut s5.extBut (Ne.symm hnn)).extBut s6.extBut (Ne.symm hnn)).extBut s7.extBut (Ne.symm hnn)
      · exact s7.extBut _ _ (Nat.ne_of_gt hel) (s6.extBut _ _ (Nat.ne_of_gt hel) (s5.extBut _ _ (Nat.ne_of_gt hel) t4))
      · rw [s7.1, s6.1, s5.1, z4]
      · exact fun b o hbe hbi hb => s7.extBut b o hbe (s6.extBut b o hbe (s5.extBut b o hbe (kk4 b o hbe hbi hb)))

theorem enumT_item {en ti tp : Addr} {i : Nat} {its0 : Array Value} {x old : Value} {Q : Option Value → Shared → Prop}
    (he : IsEnum s.heap en ti i old) (hti : s.heap.IsTupleIter ti tp i) (htl : s.heap.IsTuple tp its0) (hxx : its0[i]? = some x) (hnn : en ≠ ti)
    (hqq : ∀ h', IsEnumOut h' en ti ((i : Int) + 1) x s.heap.objs.size → h'.IsTupleIter ti tp (i + 1) →
      h'.get? s.heap.objs.size = some { cls := .type "tuple", data := .seq #[.int i s.toks, x] } → h'.objs.size = s.heap.objs.size + 1 →
      (∀ b o, b ≠ en → b ≠ ti → s.heap.get? b = some o → h'.get? b = some o) → Q (some (.ref s.heap.objs.size)) { s with heap := h', toks := s.toks + 1 }) :
    wpAny (model prog w) A (pyNext (.ref en)) Q E s := by
  have hT : s.TypeIs (.ref en) "enumerate" := ⟨_, he, rfl⟩
  unfold pyNext
  exact wpAny_bind (wpAny_attempt (wpAny_callSpecial?_slot (name := Str.ofString "__next__") hT F.slot_enumerate_next
    (wpAny_call_entry F.slot_enumerate_next hT F.entry_enumerate_next
      (enumT_next he hti htl hxx hnn fun h' a b c dr k => wpAny_pure (hqq h' a b c dr k)) (F.args_enumerate_next_1 _))))

theorem enumT_end {en ti tp : Addr} {i : Nat} {its0 : Array Value} {old : Value} {Q : Option Value → Shared → Prop} (hh : A.handled = none)
    (he : IsEnum s.heap en ti i old) (hti : s.heap.IsTupleIter ti tp i) (htl : s.heap.IsTuple tp its0) (hxx : its0[i]? = none)
    (hqq : ∀ h', Heap.ExtBut ti s.heap h' → Q none { s with heap := h' }) : wpAny (model prog w) A (pyNext (.ref en)) Q E s := by
  have hT : s.TypeIs (.ref en) "enumerate" := ⟨_, he, rfl⟩
  unfold pyNext
  refine wpAny_bind (wpAny_attempt (wpAny_callSpecial?_slot (name := Str.ofString "__next__") hT F.slot_enumerate_next
    (wpAny_call_entry F.slot_enumerate_next hT F.entry_enumerate_next ?_ (F.args_enumerate_next_1 _))))
  show wpAny _ _ (field (.ref en) 2 >>= _) _ _ _
  refine wpAny_bind (wpAny_field he rfl (x := .ref ti) rfl ?_)
  refine wpAny_bind (nextT_end hh hti htl hxx fun h' x he' hx' => ?_)
  obtain ⟨o, hob, hc⟩ := hx'
  refine wpAny_bind (wpAny_isInstance (T := "StopIteration") (b := true) ⟨o, hob, hc⟩ isSubtype_stop ?_)
  exact wpAny_pure (hqq _ he')
end
theorem meets_enumT (l : Addr) (items : Array Value) (n : Nat) (dct : Option Addr) (sl : Array (Option Value)) :
    Meets (Builtin.«enumerate.__new__» ⟨[.type "enumerate", .ref l], []⟩) (fun _ R s => s.heap.get? l = some { cls := .type "tuple", dict := dct, data := .seq items n, slots := sl } ∧
      R (.ok (.ret (.ref (s.heap.push { cls := .type "tuple_iterator", data := .fields #[.ref l, .int 0 0] }).objs.size)))
        { s with heap := (s.heap.push { cls := .type "tuple_iterator", data := .fields #[.ref l, .int 0 0] }).push { cls := .type "enumerate", data := .fields #[.none, .bool false, .ref s.heap.objs.size, rawInt 0, .none, .none] } }) :=
  .of_wp fun prog w A R s h => by
    obtain ⟨hp, g, d, tk, os⟩ := s; obtain ⟨hl, h⟩ := h
    have hsub := sub_enumerate
    have hL : Heap.IsTuple (Shared.heap ⟨hp, g, d, tk, os⟩) l items := ⟨_, hl, rfl, n, rfl⟩
    wp_walk using wpAny_loadPart' hl
    refine wpAny_stack_any fun st => wpAny_pure ?_
    split
    · rename_i c _ _ _ _ _
      cases (c == Value.type "enumerate")
      · wp_walk using wpAny_loadPart' hl, wpAny_pyIter_tuple hL
        exact ⟨_, rfl, h⟩
      · wp_walk using wpAny_loadPart' hl, wpAny_pyIter_tuple hL
        exact ⟨_, rfl, h⟩
    · wp_walk using wpAny_loadPart' hl, wpAny_pyIter_tuple hL
      exact ⟨_, rfl, h⟩

section
variable {prog : Program} {w : World} {A : Around} {E : Value → Shared → Prop} {s : Shared}
theorem call_enumT {l : Addr} {items : Array Value} {Q : Value → Shared → Prop} (hL : s.heap.IsTuple l items)
    (h : ∀ h', IsEnum h' (s.heap.objs.size + 1) s.heap.objs.size 0 .none → h'.IsTupleIter s.heap.objs.size l 0 → h'.objs.size = s.heap.objs.size + 2 →
      (∀ b o, s.heap.get? b = some o → h'.get? b = some o) → Q (.ref (s.heap.objs.size + 1)) { s with heap := h' }) :
    wpAny (model prog w) A (call (.type "enumerate") [.ref l]) Q E s := by
  obtain ⟨⟨c, dct, dt, sl⟩, hl, hc, n, hd⟩ := hL
  replace hc : c = .type "tuple" := hc
  replace hd : dt = .seq items n := hd
  subst hc hd
  refine callType_new F.called_enumerate (by decide) (F.typeCall_enumerate_1 _) (F.newCall_enumerate_1 _) (fun obj => F.args_object_init_2 obj _) F.entry_enumerate_new
    (meets_enumT l items n dct sl) ⟨hl, ?_⟩
  have hz : (s.heap.push { cls := .type "tuple_iterator", data := .fields #[.ref l, .int 0 0] }).objs.size = s.heap.objs.size + 1 := Heap.size_push ..
  show _ ∧ _
  rw [hz]
  have he : IsEnum ((s.heap.push { cls := .type "tuple_iterator", data := .fields #[.ref l, .int 0 0] }).push
      { cls := .type "enumerate", data := .fields #[.none, .bool false, .ref s.heap.objs.size, rawInt 0, .none, .none] }) (s.heap.objs.size + 1) s.heap.objs.size 0 .none := by
    have := Heap.get?_push_size (s.heap.push { cls := .type "tuple_iterator", data := .fields #[.ref l, .int 0 0] })
      (o := { cls := .type "enumerate", data := .fields #[.none, .bool false, .ref s.heap.objs.size, rawInt 0, .none, .none] }) rfl
    rw [hz] at this; exact this
  refine ⟨⟨_, he, rfl⟩, h _ he ⟨_, Heap.get?_push_of_some _ (Heap.get?_push_size _ rfl), rfl, rfl⟩ (by rw [Heap.size_push, hz]) fun b o x => Heap.get?_push_of_some _ (Heap.get?_push_of_some _ x)⟩

end
/-- a tuple, each thing of it in a pair -/
def IteT (K : PySem.W.Frag) (a : Addr) : It :=
  ⟨fun i H => ∃ (xs : List V) (x : V), SqT K H a xs ∧ xs[i]? = some x, fun i H v H' => ∃ T x, v = .ref T ∧ H T = none ∧ H' = upd H T (.tup [.int (i : Nat), x]) ∧ ∀ xs, SqT K H a xs → xs[i]? = some x, fun i H => ∃ xs : List V, SqT K H a xs ∧ xs.length ≤ i⟩
theorem turn_enumT {P : Program} {w : World} {K : PySem.W.Frag} {elts : List Expr} {kk : Nat} {tpos : Pos} (a e it : Addr) :
    Turn P w K (.Tuple elts kk tpos) (IteT K a) [e, it] e (fun i h => (∃ old, IsEnum h e it ((i : Nat) : Int) old) ∧ h.IsTupleIter it a i ∧ e ≠ it) where
  mem := by simp
  obj := fun i h st b hb => by
    obtain ⟨⟨old, he⟩, ⟨o, ho, hc, hd⟩, _⟩ := st
    have e' : b = e ∨ b = it := by simpa using hb
    rcases e' with z | z
    · rw [z]; exact ⟨_, he, fun v q => nomatch q⟩
    · rw [z]; exact ⟨o, ho, fun v q => by rw [hd] at q; cases q⟩
  keep := fun i h h' st k => let ⟨⟨old, he⟩, hi, hne⟩ := st; ⟨⟨old, k e (by simp) _ he⟩, hi.at fun o q => k it (by simp) o q, hne⟩
  item := by
    intro X hP hw hK hc i pins s σ H E I hf st hg
    subst hP hw hK
    obtain ⟨⟨old, he⟩, hit, hne⟩ := st
    obtain ⟨xs, x, hq, hx⟩ := hg
    obtain ⟨its, rv, p, hz⟩ := I.tuple hq
    obtain ⟨u, hu, ru⟩ := rv.get hx
    have hel : e < s.heap.objs.size := Heap.lt_size he
    have hil : it < s.heap.objs.size := by obtain ⟨_, q, _⟩ := hit; exact Heap.lt_size q
    refine enumT_item he hit p (x := u) (by simpa using hu) hne fun h' ho hit' hT hsz hk => ?_
    refine ⟨_, rfl, wpAny_letOwnedTupleGo_enum (s := { s with heap := h', toks := s.toks + 1 }) ho fun h'' he' sb => ?_⟩
    have hT2 : h''.get? s.heap.objs.size = some { cls := .type "tuple", data := .seq #[.int i s.toks, u] } := (sb.2 _ (Nat.ne_of_gt hel)).trans hT
    have new : ObjOk X.prog X.w (upd H s.heap.objs.size (.tup [.int (i : Nat), x])) h'' s.heap.objs.size (.tup [.int (i : Nat), x]) :=
      ⟨by show 2 ≤ sizeLine; decide, [.int i s.toks, u], .cons ⟨_, rfl⟩ (.cons ru .nil), ⟨_, hT2, rfl, _, rfl⟩⟩
    have I1 : Inv X pins σ (upd H s.heap.objs.size (.tup [.int (i : Nat), x])) { s with heap := h'', toks := s.toks + 1 } :=
      I.turnedNew (ch := [e, it]) (fun b ob hb q => (sb.2 b (fun z => hb (by simp [z]))).trans (hk b ob (fun z => hb (by simp [z])) (fun z => hb (by simp [z])) q)) hf (Nat.le_refl _) new
    refine ⟨.ref s.heap.objs.size, _, I1, rfl, ⟨_, x, rfl, I.hok.fresh (Nat.le_refl _), rfl, fun ys hy => by rw [I.tuple_inj hy hq]; exact hx⟩, ⟨⟨u, ?_⟩, hit'.at fun o q => (sb.2 it (Ne.symm hne)).trans q, hne⟩, fun b hb => ?_⟩
    · have e1 : ((i + 1 : Nat) : Int) = (i : Int) + 1 := by omega
      rw [e1]; exact he'
    · have hb' : b < s.heap.objs.size := by
        have e' : b = e ∨ b = it := by simpa using hb
        rcases e' with z | z
        · rw [z]; exact hel
        · rw [z]; exact hil
      rw [upd_ne (Nat.ne_of_lt hb')]
      exact (hf b hb).1
  done := by
    intro X hP hw hK hc i pins s σ H E I hf st hg
    subst hP hw hK
    obtain ⟨⟨old, he⟩, hit, hne⟩ := st
    obtain ⟨xs, hq, hx⟩ := hg
    obtain ⟨its, rv, p, hz⟩ := I.tuple hq
    obtain ⟨f0, f1, f2, f3, f4, f5⟩ := hf it (by simp)
    have hl := rv.length
    exact enumT_end (I.ok.hd hc) he hit p (by simp; omega) fun h' eb => ⟨rfl, I.turned (t' := s.toks) (fun b o hb q => eb b o hb q) f0 f1 f3 f4 f5⟩
  self := fun A i s Q E st h => let ⟨⟨_, he⟩, _⟩ := st; wpAny_pyIter_enum he h
def iEnumT (K : PySem.W.Frag) (ta : TA) : TI := fun σ H R => ta σ H fun vs H1 => ∃ a xs, vs = [.ref a] ∧ SqT K H1 a xs ∧ R (IteT K a) H1
theorem pi_enumT {X : Cx} {e : Expr} {ta : TA} {p pos tpos : Pos} {elts : List Expr} {kk : Nat} (hg : Gl X "enumerate") (hm : X.mg "enumerate" = none) (ha : PA X [e] ta) (hs : starEach [e] X.env = [(false, eval e X.env)] := by rfl) :
    PI X (.Tuple elts kk tpos) (.Call (.Name "enumerate" p) [e] [] pos) (iEnumT X.K ta) := by
  refine ⟨fun pins s σ H R I h => ?_⟩
  refine Call_ (ld_blt I hg hm boot_enumerate (PyProof.Rows.callWith_type1 (thn (ha.run pos pins s σ H _ I h) fun us s1 ⟨vs, H1, I1, r1, q1⟩ => ?_) hs rfl))
  obtain ⟨a, xs, ex, hq, q⟩ := q1
  subst ex
  cases r1 with
  | cons r rr =>
    cases rr
    cases r
    obtain ⟨its, rv, p', hz⟩ := I1.tuple hq
    refine call_enumT p' fun h' he hit hsz hk => wpAny_pyIter_enum he ?_
    have I2 : Inv X pins σ H1 { s1 with heap := h' } := I1.kept (t' := s1.toks) hk
    refine ⟨s1.heap.objs.size + 1, [s1.heap.objs.size + 1, s1.heap.objs.size], _, _, H1, rfl, I2, turn_enumT a (s1.heap.objs.size + 1) s1.heap.objs.size, ⟨⟨.none, he⟩, hit, Nat.succ_ne_self _⟩, fun b hb => ?_, q⟩
    have e' : b = s1.heap.objs.size + 1 ∨ b = s1.heap.objs.size := by simpa using hb
    have hle : s1.heap.objs.size ≤ b := by
      rcases e' with z | z
      · rw [z]; exact Nat.le_add_right _ _
      · rw [z]; exact Nat.le_refl _
    exact I1.fpOk hle (I1.hok.fresh hle)
end LH
end

section
set_option Elab.async false
set_option linter.all false
/-! the house as plain data: what the program's defs reckon -/
namespace LH
open PySem PySem.Spec PyProof.Rows L2
structure HouseS where
  here : Int
  hold : Int
  pause : Int
  hands : Int
  age : Int
  rows : List RowS
  jobs : List JobS
  given : Nat
  cnt : List LeaseS
  staff : List (Str × List Str)
  clks : List ClockS
  log : List PyData
def HG.er (G : HG) : HouseS := ⟨G.here, G.hold, G.pause, G.hands, G.age, G.rows.map (·.toRowS), G.jobs.map (·.toJobS), G.given, G.cnt.map (·.toLeaseS), G.staff.map fun s => (s.name, s.kinds), G.clks.map (·.toClockS), G.log.map (·.2)⟩
abbrev tDone : Str := Str.ofString "done"
abbrev tDead : Str := Str.ofString "dead"
abbrev tDropped : Str := Str.ofString "dropped"
def JobS.kind (j : JobS) : Str := j.steps.getD (min j.fin (j.steps.length - 1)) ""
def JobS.since (j : JobS) : Int := if j.free > j.til then j.free else j.til
def twice (w : Int) : Int := if w * 2 < 999 then w * 2 else 999
def dbl : Nat → Int → Int
  | 0, w => w
  | n + 1, w => dbl n (twice w)
def JobS.letGo (j : JobS) (tick : Int) : JobS := { j with held := none, share := 0, til := tick }
def JobS.again (j : JobS) (tick : Int) : JobS := { j with ended := none, tries := 0, til := tick }
def JobS.stepDone (j : JobS) (tick : Int) : JobS := { j with held := none, tries := 0, share := 0, til := tick, fin := j.fin + 1, ended := if j.fin + 1 = j.steps.length then some tDone else j.ended }
def JobS.stepFailed (j : JobS) (tick pause : Int) : JobS :=
  if ((j.tries + 1 : Nat) : Int) ≥ j.most then { j with held := none, share := 0, tries := j.tries + 1, ended := some tDead } else { j with held := none, share := 0, tries := j.tries + 1, til := tick + dbl j.tries pause }
end LH
end

section
set_option Elab.async false
set_option linter.all false
/-! the house as plain data: what each of its defs does -/
namespace LH
open PySem PySem.Spec PyProof.Rows L2 PySem.W
abbrev S' (s : String) : PyData := .str (Str.ofString s)
abbrev I' (i : Int) : PyData := .int i
abbrev N' (n : Nat) : PyData := .int (n : Int)
def RowS.trim (r : RowS) (tick : Int) : RowS := { r with ticks := r.ticks.filter fun o => decide (o > tick - 10) }
def ins {α : Type} (le : α → α → Bool) (a : α) : List α → List α
  | [] => [a]
  | b :: l => if le a b = true then a :: b :: l else b :: ins le a l
def isort {α : Type} (le : α → α → Bool) : List α → List α
  | [] => []
  | a :: l => ins le a (isort le l)
theorem ins_split {α : Type} {le : α → α → Bool} {a : α} : ∀ {l1 l2 : List α}, (∀ b ∈ l1, (!le a b) = true) → (∀ b ∈ l2, le a b = true) → ins le a (l1 ++ l2) = l1 ++ a :: l2
  | [], [], _, _ => rfl
  | [], b :: l2, _, h => by
    show (if le a b = true then a :: b :: l2 else b :: ins le a l2) = _
    rw [if_pos (h b List.mem_cons_self)]
    rfl
  | b :: l1, l2, h1, h2 => by
    show (if le a b = true then a :: b :: (l1 ++ l2) else b :: ins le a (l1 ++ l2)) = _
    have := h1 b List.mem_cons_self
    rw [if_neg (by simpa using this), ins_split (fun c hc => h1 c (List.mem_cons_of_mem _ hc)) h2]
    rfl
theorem msort_eq {α : Type} {le : α → α → Bool} (tl : TotalLe le) : ∀ l : List α, l.mergeSort le = isort le l
  | [] => by simp [isort]
  | a :: l => by
    have tt : ∀ a b : α, (le a b || le b a) = true := fun a b => by rcases tl.total a b with h | h <;> simp [h]
    obtain ⟨l1, l2, h1, h2, h3⟩ := List.mergeSort_cons (le := le) (fun a b c => tl.trans a b c) tt a l
    have hp := List.pairwise_mergeSort (le := le) (fun a b c => tl.trans a b c) tt (a :: l)
    rw [h1, List.pairwise_append] at hp
    show _ = ins le a (isort le l)
    rw [← msort_eq tl l, h2, h1, ins_split h3 fun b hb => (List.pairwise_cons.mp hp.2.1).1 b hb]
theorem dsort_eq {β : Type} (k : β → PyData) (l : List β) : isort (dataLe false k) l = l.mergeSort (dataLe false k) := (msort_eq (sortLe_total _ _ _) l).symm
namespace HouseS
def rowUp (h : HouseS) (k : Str) (f : RowS → RowS) : HouseS := { h with rows := h.rows.map fun r => if r.kind = k then f r else r }
def row (h : HouseS) (k : Str) : Option RowS := h.rows.find? fun r => decide (r.kind = k)
def jobUp (h : HouseS) (i : Nat) (f : JobS → JobS) : HouseS := match h.jobs[i]? with
  | none => h
  | some j => { h with jobs := h.jobs.set i (f j) }
def ended (h : HouseS) (n : Nat) : Option Str := (h.jobs[n]?).bind (·.ended)
def lease (h : HouseS) (n : Nat) : Option LeaseS := h.cnt.find? fun l => decide (l.num = n)
def note (h : HouseS) (e : PyData) : HouseS := { h with log := h.log ++ [e] }
def missing (h : HouseS) (j : JobS) : List Nat := j.needs.filter fun n => decide (h.ended n ≠ some tDone)
def lostIn (js : List JobS) : Nat → List Nat → Option Nat
  | 0, _ => none
  | d + 1, ns => ns.find? fun n => match js[n]? with
    | none => false
    | some o => decide (o.ended = some tDead) || decide (o.ended = some tDropped) || (decide (o.ended = none) && (lostIn js d o.needs).isSome)
def lostBy (h : HouseS) (j : JobS) : Option Nat := lostIn h.jobs 128 j.needs
def isReady (h : HouseS) (j : JobS) : Bool := decide (j.ended = none) && decide (j.held = none) && decide (j.til ≤ h.here) && decide (h.missing j = [])
def rankOf (h : HouseS) (j : JobS) : Int := if h.age > 0 then j.rank + (h.here - j.since) / h.age else j.rank
def turnKey (h : HouseS) (n : Nat) : PyData := match h.jobs[n]? with
  | none => .none
  | some j => .tuple [I' (0 - h.rankOf j), I' j.since, N' n]
def ready (h : HouseS) : List Nat := (List.range h.jobs.length).filter fun n => match h.jobs[n]? with
  | none => false
  | some j => h.isReady j
def order (h : HouseS) : List Nat := isort (dataLe false h.turnKey) h.ready
theorem order_eq (h : HouseS) : h.order = h.ready.mergeSort (dataLe false h.turnKey) := dsort_eq _ _
def handsOf (h : HouseS) (w : Str) : Nat := (h.cnt.filter fun l => decide (l.worker = w)).length
def kindsOf (h : HouseS) (w : Str) : List Str := ((h.staff.find? fun s => decide (s.1 = w)).map (·.2)).getD []
def lately (h : HouseS) (k : Str) : Int × HouseS := match h.row k with
  | none => (0, h)
  | some r => (((r.trim h.here).ticks.length : Nat), h.rowUp k fun r => r.trim h.here)
def hindrance (h : HouseS) (w : Str) (j : JobS) : Option Str × HouseS :=
  match h.row j.kind with
  | none => (none, h)
  | some r =>
    if ¬ j.kind ∈ h.kindsOf w then (some (Str.ofString "kind"), h)
    else if ¬ r.cnt < r.most then (some (Str.ofString "most"), h)
    else if ¬ (h.lately j.kind).1 < r.rate then (some (Str.ofString "rate"), (h.lately j.kind).2)
    else (if (h.handsOf w : Int) ≥ h.hands then some (Str.ofString "hands") else none, (h.lately j.kind).2)
def takeOne (h : HouseS) (w : Str) (n : Nat) (j : JobS) : HouseS :=
  (((({ h with given := h.given + 1, cnt := h.cnt ++ [⟨h.given, n, j.fin, w, h.here + h.hold⟩] } : HouseS).rowUp j.kind fun r => { r with cnt := r.cnt + 1, ticks := r.ticks ++ [h.here] }).jobUp n fun j => { j with held := some h.given }).note
    (.tuple [S' "take", .str w, N' n, N' j.fin, N' h.given]))
def takeIn (w : Str) : List Nat → HouseS → PyData × HouseS
  | [], h => (.none, h)
  | n :: ns, h => match h.jobs[n]? with
    | none => (.none, h)
    | some j => if (h.hindrance w j).1 = none then (.tuple [N' n, N' j.fin, N' h.given, I' (h.here + h.hold)], (h.hindrance w j).2.takeOne w n j) else takeIn w ns (h.hindrance w j).2
def take (h : HouseS) (w : Str) : PyData × HouseS := takeIn w h.order h
def closed (h : HouseS) (l : LeaseS) : HouseS := match h.jobs[l.work]? with
  | none => h
  | some j => { h.rowUp j.kind fun r => { r with cnt := r.cnt - 1 } with cnt := h.cnt.filter fun o => decide (o.num ≠ l.num) }
def failOne (h : HouseS) (l : LeaseS) : HouseS := (h.closed l).jobUp l.work fun j => j.stepFailed h.here h.pause
def goOne (h : HouseS) (l : LeaseS) : HouseS := (h.closed l).jobUp l.work fun j => j.letGo h.here
def fail (h : HouseS) (n : Nat) : Bool × HouseS := match h.lease n with
  | none => (false, h)
  | some l => (true, (h.note (.tuple [S' "fail", N' n])).failOne l)
def done (h : HouseS) (n : Nat) : Bool × HouseS := match h.lease n with
  | none => (false, h)
  | some l =>
    let h2 := ((h.note (.tuple [S' "done", N' n])).closed l).jobUp l.work fun j => j.stepDone h.here
    (true, if h2.ended l.work = some tDone then { h2 with jobs := h2.jobs.map fun o => if l.work ∈ o.needs then { o with free := h.here } else o } else h2)
def beat (h : HouseS) (n : Nat) : Bool × HouseS := match h.lease n with
  | none => (false, h)
  | some _ => (true, { h.note (.tuple [S' "beat", N' n]) with cnt := h.cnt.map fun l => if l.num = n then { l with til := h.here + h.hold } else l })
def tell (h : HouseS) (n : Nat) (share : Int) : Bool × HouseS := match h.lease n with
  | none => (false, h)
  | some l => match h.jobs[l.work]? with
    | none => (false, h)
    | some j => if share < j.share then (false, h) else (true, (h.note (.tuple [S' "tell", N' n, I' share])).jobUp l.work fun j => { j with share := share })
def drop (h : HouseS) (n : Nat) : Bool × HouseS := match h.jobs[n]? with
  | none => (false, h)
  | some j =>
    if j.ended ≠ none then (false, h)
    else
      let h1 := h.note (.tuple [S' "drop", N' n])
      let h2 := match j.held with
        | none => h1
        | some m => match h1.lease m with
          | none => h1
          | some l => h1.goOne l
      (true, h2.jobUp n fun j => { j with ended := some tDropped })
def again (h : HouseS) (n : Nat) : Bool × HouseS := match h.jobs[n]? with
  | none => (false, h)
  | some j => if j.ended ≠ some tDead then (false, h) else (true, (h.note (.tuple [S' "again", N' n])).jobUp n fun j => j.again h.here)
def newJob (h : HouseS) (rank til : Int) (steps : List Str) (needs : List Nat) (most : Int) : HouseS := { h with jobs := h.jobs ++ [⟨rank, til, steps, needs, most, 0, 0, 0, none, none, h.here⟩] }
def add (h : HouseS) (rank time : Int) (steps : List Str) (needs : List Nat) (tries : Int) : HouseS :=
  (h.note (.tuple [S' "add", I' rank, I' time, .tuple (steps.map .str), .tuple (needs.map N'), I' tries])).newJob rank time steps needs tries
def strikeAt (tick : Int) (h : HouseS) (i : Nat) : HouseS := match h.clks[i]? with
  | none => h
  | some c => if c.left > 0 ∧ c.coming = tick then { h.newJob c.rank tick c.steps [] c.tries with clks := h.clks.set i { c with left := c.left - 1, coming := c.coming + c.every } } else h
def strike (h : HouseS) (tick : Int) : HouseS := (List.range h.clks.length).foldl (strikeAt tick) h
def clock (h : HouseS) (rank : Int) (steps : List Str) (first every many tries : Int) : HouseS :=
  let h1 := h.note (.tuple [S' "clock", I' rank, .tuple (steps.map .str), I' first, I' every, I' many, I' tries])
  ({ h1 with clks := h1.clks ++ [⟨rank, steps, tries, first, every, many⟩] } : HouseS).strike h.here
def join (h : HouseS) (w : Str) (kinds : List Str) : HouseS := { h.note (.tuple [S' "join", .str w, .tuple (kinds.map .str)]) with staff := h.staff ++ [(w, kinds)] }
def leave (h : HouseS) (w : Str) : HouseS :=
  let h1 := h.note (.tuple [S' "leave", .str w])
  (h.cnt.filter fun l => decide (l.worker = w)).foldl goOne { h1 with staff := h1.staff.filter fun s => decide (s.1 ≠ w) }
def limit (h : HouseS) (k : Str) (most rate : Int) : HouseS := (h.note (.tuple [S' "limit", .str k, I' most, I' rate])).rowUp k fun r => { r with most := most, rate := rate }
def nextTicks (h : HouseS) : List Int := h.cnt.map (·.til) ++ ((h.clks.filter fun c => decide (c.left > 0)).map (·.coming))
def minOf : List Int → Option Int
  | [] => none
  | x :: xs => some (xs.foldl min x)
/-- the leases that end now, by number -/
def byNum (h : HouseS) : List LeaseS := isort (dataLe false fun l => N' l.num) h.cnt
theorem byNum_eq (h : HouseS) : h.byNum = h.cnt.mergeSort (dataLe false fun l => N' l.num) := dsort_eq _ _
def turnTo (h : HouseS) (t : Int) : HouseS :=
  let h1 : HouseS := { h with here := t }
  (h1.byNum.foldl (fun h l => if l.til = t then h.failOne l else h) h1).strike t
def turnIn (tick : Int) : Nat → HouseS → HouseS
  | 0, h => { h with here := tick }
  | f + 1, h => match minOf h.nextTicks with
    | none => { h with here := tick }
    | some t => if t ≤ tick then turnIn tick f (h.turnTo t) else { h with here := tick }
def turn (h : HouseS) (tick : Int) : HouseS := turnIn tick (tick - h.here).toNat (h.note (.tuple [S' "turn", I' tick]))
def state (h : HouseS) (n : Nat) : PyData := match h.jobs[n]? with
  | none => .none
  | some j => match j.ended with
    | some e => .tuple [.str e]
    | none => match j.held with
      | some m => match h.lease m with
        | none => .none
        | some l => .tuple [S' "taken", .str l.worker, I' l.til, N' m]
      | none => match h.lostBy j with
        | some m => .tuple [S' "lost", N' m]
        | none => if h.missing j ≠ [] then .tuple [S' "needs", .tuple ((h.missing j).map N')]
          else if j.til > h.here then .tuple [S' "later", I' j.til] else .tuple [S' "ready", I' j.since]
def why (h : HouseS) (w : Str) (n : Nat) : PyData × HouseS := match h.state n, h.jobs[n]? with
  | .tuple (.str x :: r), some j => if x ≠ Str.ofString "ready" then (.str x, h) else (match (h.hindrance w j).1 with | none => .none | some z => .str z, (h.hindrance w j).2)
  | _, _ => (.none, h)
def progress (h : HouseS) (n : Nat) : PyData := match h.jobs[n]? with
  | none => .none
  | some j => .tuple [N' j.fin, N' j.steps.length, N' j.tries, I' j.share]
def queue (h : HouseS) (k : Str) : List Nat := h.order.filter fun n => match h.jobs[n]? with
  | none => false
  | some j => decide (j.kind = k)
def limitsOf (h : HouseS) (k : Str) : PyData × HouseS := match h.row k with
  | none => (.none, h)
  | some r => (.tuple [I' r.cnt, I' r.most, I' (h.lately k).1, I' r.rate], (h.lately k).2)
def leaseD (l : LeaseS) : PyData := .tuple [N' l.num, N' l.work, N' l.step, .str l.worker, I' l.til]
def leases (h : HouseS) : PyData := .list ((isort (dataLe false leaseD) h.cnt).map leaseD)
theorem leases_eq (h : HouseS) : h.leases = .list ((h.cnt.mergeSort (dataLe false leaseD)).map leaseD) := by unfold leases; rw [dsort_eq]
def staffD1 (s : Str × List Str) : PyData := .tuple [.str s.1, .tuple (s.2.map .str)]
def workers (h : HouseS) : PyData := .list ((isort (dataLe false staffD1) h.staff).map staffD1)
theorem workers_eq (h : HouseS) : h.workers = .list ((h.staff.mergeSort (dataLe false staffD1)).map staffD1) := by unfold workers; rw [dsort_eq]
def nextDue (h : HouseS) : Option Int := minOf ((h.nextTicks ++ ((h.rows.flatMap (·.ticks)).filterMap fun o => if o + 10 > h.here then some (o + 10) else none) ++
  ((h.jobs.filter fun j => decide (j.ended = none) && decide (j.held = none)).map (·.til))).filter fun t => decide (t > h.here))
end HouseS
/-- what the program keeps of a house -/
structure HouseOk (h : HouseS) : Prop where
  rows : (h.rows.map (·.kind)).Nodup
  jobs : ∀ (i : Nat) (j : JobS), h.jobs[i]? = some j → j.steps ≠ [] ∧ (∀ s ∈ j.steps, ∃ r, h.row s = some r) ∧ (∀ n ∈ j.needs, n < i) ∧ j.needs.length ≤ 6 ∧ j.steps.length ≤ 5 ∧ j.tries ≤ 900
  cnt : ∀ l ∈ h.cnt, l.num < h.given ∧ ∃ j : JobS, h.jobs[l.work]? = some j ∧ j.held = some l.num
  nums : (h.cnt.map (·.num)).Nodup
  held : ∀ (i : Nat) (j : JobS) (m : Nat), h.jobs[i]? = some j → j.held = some m → ∃ l ∈ h.cnt, l.num = m ∧ l.work = i
  staff : (h.staff.map (·.1)).Nodup
  pause : 0 ≤ h.pause ∧ h.pause ≤ 999
  needy : (h.jobs.filter fun j => decide (j.needs ≠ [])).length ≤ 120
  sizes : h.jobs.length ≤ 1000000 ∧ h.cnt.length ≤ 1000000 ∧ h.log.length ≤ 1000000 ∧ h.clks.length ≤ 1000000 ∧ h.staff.length ≤ 1000000 ∧ h.rows.length ≤ 8 ∧ ∀ r ∈ h.rows, r.ticks.length ≤ 1000000
  alive : ∀ (i : Nat) (j : JobS), h.jobs[i]? = some j → (1 ≤ j.most ∧ j.most ≤ 9) ∧ (j.tries : Int) ≤ j.most ∧ (j.ended = none → (j.tries : Int) < j.most) ∧ (j.held ≠ none → j.ended = none)
  clks : ∀ c ∈ h.clks, c.steps ≠ [] ∧ (∀ s ∈ c.steps, ∃ r, h.row s = some r) ∧ c.steps.length ≤ 5 ∧ (1 ≤ c.tries ∧ c.tries ≤ 9) ∧ 1 ≤ c.every
  pot : h.jobs.length + h.clks.length + (h.clks.map fun c => c.left.toNat).sum ≤ 900000
end LH
end

section
set_option Elab.async false
set_option linter.all false
set_option maxRecDepth 100000
set_option maxHeartbeats 4000000
namespace LH
open PySem PySem.Spec PyProof.Rows L2 StX
variable {P : Program} {w : World} {K : PySem.W.Frag} {mg : Str → Option Value} {base : Heap}
@[irreducible] def sp_Job_since (K : PySem.W.Frag) : Sp := fun vs H Q E => ∃ g : JobG, vs = [.ref g.a] ∧ JobAt K H g ∧ Q (.int g.since) H
theorem sc_Job_since : FnScope ["self"] ["self"] (defScope s_Job_since) := ⟨rfl, rfl, rfl, by decide +kernel, rfl, by decide +kernel, by decide +kernel⟩
theorem Tp.ok_Job_since (T : Tp P w K mg base) : FnR P w K mg base (L2.CX P w) (0 + 1) (He.ma K (He.ga K "Job") "since") (sp_Job_since K) := by
  refine fnr (N := ["self"]) (ps := ["self"]) (k := 0) T.fd_Job_since sc_Job_since (fun _ _ _ _ _ _ us hl => match us, hl with | [_], _ => rfl) (fun vs H Q E h => ?_) fun cdv A outer s H vs Q E hr h => ?_
  · unfold sp_Job_since at h
    obtain ⟨_, rfl, _⟩ := h
    rfl
  unfold sp_Job_since at h
  obtain ⟨g, rfl, hg, q⟩ := h
  refine ⟨_, (pss_one (ps_ret (pe_callB (call_max2 rfl) rfl T.f_max bt_max (pa_cons (pe_fld (pv 0) rfl) (pa_cons (pe_fld (pv 0) rfl) pa_nil))))), ?_⟩
  exact ⟨_, rfl, T.jr_until hg ⟨_, rfl, T.jr_free_at hg ⟨_, _, rfl, q⟩⟩⟩
@[irreducible] def sp_is_number (K : PySem.W.Frag) : Sp := fun vs H Q E => ∃ i lo hi : Int, vs = [.int i, .int lo, .int hi] ∧ Q (.bl (decide (lo ≤ i ∧ i ≤ hi))) H
theorem sc_is_number : FnScope ["part", "low", "high"] ["part", "low", "high"] (defScope s_is_number) := ⟨rfl, rfl, rfl, by decide +kernel, rfl, by decide +kernel, by decide +kernel⟩
theorem Tp.ok_is_number (T : Tp P w K mg base) : FnR P w K mg base (L2.CX P w) (0 + 1) (He.ga K "is_number") (sp_is_number K) := by
  refine fnr (N := ["part", "low", "high"]) (ps := ["part", "low", "high"]) (k := 0) T.fd_is_number sc_is_number (fun _ _ _ _ _ _ us hl => match us, hl with | [_, _, _], _ => rfl) (fun vs H Q E h => ?_) fun cdv A outer s H vs Q E hr h => ?_
  · unfold sp_is_number at h
    obtain ⟨_, _, _, rfl, _⟩ := h
    rfl
  unfold sp_is_number at h
  obtain ⟨i, lo, hi, rfl, q⟩ := h
  refine ⟨_, (pss_one (ps_ret (pe_and (pe_callB call_isi rfl T.f_isinstance bt_isinstance (pa_cons (pv 0) (pa_cons (pe_ty rfl T.f_int bt_int) pa_nil))) (pe_and (pe_not (pe_callB call_isi rfl T.f_isinstance bt_isinstance (pa_cons (pv 0) (pa_cons (pe_ty rfl T.f_bool bt_bool) pa_nil)))) (pe_one (pe_chain op_le op_le (pv 1) (pv 0) (pv 2))))))), ?_⟩
  refine ⟨_, rfl, ⟨_, _, _, _, true, rfl, .ty _, .base (.int _), kit_ty (by decide +kernel), ⟨_, rfl, iteT ?_⟩⟩⟩
  refine ⟨_, rfl, ⟨_, _, _, _, false, rfl, .ty _, .base (.int _), kit_ty (by decide +kernel), ⟨_, rfl, _, rfl, iteT ?_⟩⟩⟩
  refine ⟨_, rfl, _, rfl, _, _, rfl, rfl, _, rfl, ?_⟩
  by_cases h1 : lo ≤ i
  · rw [decide_eq_true h1]
    refine iteT ⟨_, rfl, _, _, rfl, rfl, ?_⟩
    have e : decide (lo ≤ i ∧ i ≤ hi) = decide (i ≤ hi) := by simp [h1]
    rw [e] at q
    exact q
  · rw [decide_eq_false h1]
    refine iteF ?_
    have e : decide (lo ≤ i ∧ i ≤ hi) = false := by simp [h1]
    rw [e] at q
    exact q
@[irreducible] def sp_Job_kind (K : PySem.W.Frag) : Sp := fun vs H Q E => ∃ g : JobG, vs = [.ref g.a] ∧ JobAt K H g ∧ g.steps ≠ [] ∧ Q (.str g.kind) H
theorem sc_Job_kind : FnScope ["self"] ["self"] (defScope s_Job_kind) := ⟨rfl, rfl, rfl, by decide +kernel, rfl, by decide +kernel, by decide +kernel⟩
theorem Tp.ok_Job_kind (T : Tp P w K mg base) : FnR P w K mg base (L2.CX P w) (0 + 1) (He.ma K (He.ga K "Job") "kind") (sp_Job_kind K) := by
  refine fnr (N := ["self"]) (ps := ["self"]) (k := 0) T.fd_Job_kind sc_Job_kind (fun _ _ _ _ _ _ us hl => match us, hl with | [_], _ => rfl) (fun vs H Q E h => ?_) fun cdv A outer s H vs Q E hr h => ?_
  · unfold sp_Job_kind at h
    obtain ⟨_, rfl, _⟩ := h
    rfl
  unfold sp_Job_kind at h
  obtain ⟨g, rfl, hg, hn, q⟩ := h
  refine ⟨_, (pss_one (ps_ret (pe_ix ix_tup (pe_fld (pv 0) rfl) (pe_callB (call_min2 rfl) rfl T.f_min bt_min (pa_cons (pe_fld (pv 0) rfl) (pa_cons (pe_op op_sub (pe_callB call_len_seq rfl T.f_len bt_len (pa_cons (pe_fld (pv 0) rfl) pa_nil)) pe_int) pa_nil))) (fun _ _ => rfl)))), ?_⟩
  refine ⟨_, rfl, T.jr_steps hg ⟨_, rfl, T.jr_done_steps hg ⟨_, rfl, T.jr_steps hg ⟨_, _, rfl, .inr hg.st, _, _, rfl, rfl, _, _, rfl, ?_⟩⟩⟩⟩
  refine ⟨_, _, _, _, rfl, rfl, hg.st, ?_, q⟩
  have hl : 0 < g.steps.length := List.length_pos_iff.mpr hn
  have e : (if ((vstrs g.steps).length : Int) - 1 < (g.fin : Int) then ((vstrs g.steps).length : Int) - 1 else (g.fin : Int)) = ((min g.fin (g.steps.length - 1) : Nat) : Int) := by
    rw [vstrs, List.length_map]
    split <;> omega
  rw [e]
  refine atI_nat ?_
  unfold vstrs JobS.kind
  have hlt : min g.fin (g.steps.length - 1) < g.steps.length := by omega
  rw [List.getElem?_map, List.getElem?_eq_getElem hlt, List.getD, List.getElem?_eq_getElem hlt]
  rfl
@[irreducible] def sp_doubled (K : PySem.W.Frag) : Sp := fun vs H Q E => ∃ (u : Int) (n : Nat), vs = [.int u, .int (n : Nat)] ∧ (0 ≤ u ∧ u ≤ 999) ∧ n ≤ 1000 ∧ Q (.int (dbl n u)) H
theorem twice_le {u : Int} (h : 0 ≤ u ∧ u ≤ 999) : 0 ≤ twice u ∧ twice u ≤ 999 := by
  unfold twice
  split <;> omega
theorem dbl_le : ∀ {n : Nat} {u : Int}, 0 ≤ u ∧ u ≤ 999 → 0 ≤ dbl n u ∧ dbl n u ≤ 999
  | 0, _, h => h
  | n + 1, u, h => dbl_le (n := n) (twice_le h)
theorem dbl_out : ∀ (n : Nat) (u : Int), dbl (n + 1) u = twice (dbl n u)
  | 0, _ => rfl
  | n + 1, u => dbl_out n (twice u)
theorem sc_doubled : FnScope ["wait", "times", "turn"] ["wait", "times"] (defScope s_doubled) := ⟨rfl, rfl, rfl, by decide +kernel, rfl, by decide +kernel, by decide +kernel⟩
theorem Tp.ok_doubled (T : Tp P w K mg base) : FnR P w K mg base (L2.CX P w) (0 + 1) (He.ga K "doubled") (sp_doubled K) := by
  refine fnr (N := ["wait", "times", "turn"]) (ps := ["wait", "times"]) (k := 0) T.fd_doubled sc_doubled (fun _ _ _ _ _ _ us hl => match us, hl with | [_, _], _ => rfl) (fun vs H Q E h => ?_) fun cdv A outer s H vs Q E hr h => ?_
  · unfold sp_doubled at h
    obtain ⟨_, _, rfl, _⟩ := h
    rfl
  unfold sp_doubled at h
  obtain ⟨u, n, rfl, hw, hn, q⟩ := h
  refine ⟨_, (pss_cons (ps_for passOwnE rfl (pi_range1 rfl T.f_range (pa_cons (pv 1) pa_nil)) (pg_name (i := 2) sc_doubled.nd rfl (by first | exact .inl rfl | exact .inr rfl)) (pss_one (ps_set (i := 0) sc_doubled.nd rfl (by first | exact .inl rfl | exact .inr rfl) (pe_callB (call_min2 rfl) rfl T.f_min bt_min (pa_cons (pe_gi rfl T.v_MOST_WAIT) (pa_cons (pe_op op_mul (pv 0) pe_int) pa_nil))))))
      (pss_one (ps_ret (pv 0)))), ?_⟩
  refine ⟨_, rfl, _, rfl, by omega, by omega, ?_⟩
  rw [Int.toNat_natCast]
  refine for_range (n := n) (fun i σ H' => H' = H ∧ ∃ x, σ = [some (.int (dbl i u)), some (.int n), x]) ⟨rfl, _, rfl⟩ ?_ ?_
  · rintro i σ H' hi ⟨rfl, x, rfl⟩
    refine ⟨_, rfl, _, _, rfl, rfl, .inr ⟨by decide, by decide⟩, _, _, rfl, rfl, some (.int (0 + (i : Int))), ?_⟩
    rw [dbl_out]
    rfl
  · rintro σ H' ⟨rfl, x, rfl⟩
    exact ⟨_, rfl, q⟩
@[irreducible] def sp_Job_step_failed (K : PySem.W.Frag) : Sp := fun vs H Q E => ∃ (g : JobG) (tick : Int) (pause : Int), vs = [.ref g.a, .int tick, .int pause] ∧ JobAt K H g ∧ (0 ≤ pause ∧ pause ≤ 999) ∧ g.tries ≤ 900 ∧ Q .non (upd H g.a (.ins (cJ K) g.dx (jobFs (g.W (g.stepFailed tick pause)))))
theorem sc_Job_step_failed : FnScope ["self", "tick", "pause"] ["self", "tick", "pause"] (defScope s_Job_step_failed) := ⟨rfl, rfl, rfl, by decide +kernel, rfl, by decide +kernel, by decide +kernel⟩
theorem Tp.ok_Job_step_failed (T : Tp P w K mg base) : FnR P w K mg base (L2.CX P w) (1 + 1) (He.ma K (He.ga K "Job") "step_failed") (sp_Job_step_failed K) := by
  refine fnr (N := ["self", "tick", "pause"]) (ps := ["self", "tick", "pause"]) (k := 1) T.fd_Job_step_failed sc_Job_step_failed (fun _ _ _ _ _ _ us hl => match us, hl with | [_, _, _], _ => rfl) (fun vs H Q E h => ?_) fun cdv A outer s H vs Q E hr h => ?_
  · unfold sp_Job_step_failed at h
    obtain ⟨_, _, _, rfl, _⟩ := h
    rfl
  unfold sp_Job_step_failed at h
  obtain ⟨g, tick, pause, rfl, hg, hp, ht, q⟩ := h
  refine ⟨_, (pss_cons (ps_fld (pv 0) pe_non rfl)
      (pss_cons (ps_fld (pv 0) pe_int rfl)
      (pss_cons (ps_fldaug (pv 0) pe_int in_add)
      (pss_one (ps_if (pt_cmpR op_ge (pe_fld (pv 0) rfl) (pe_fld (pv 0) rfl) (nomark _)) (pss_one (ps_fld (pv 0) (pe_gs rfl T.v_DEAD) rfl)) (pss_one (ps_fld (pv 0) (pe_op op_add (pv 1) (pe_callP T.ok_doubled (rm hr) (kp_of T.fd_doubled) rfl T.g_doubled passE (pa_cons (pv 2) (pa_cons (pe_op op_sub (pe_fld (pv 0) rfl) pe_int) pa_nil)))) rfl))))))), ?_⟩
  refine ⟨_, rfl, T.jw_held hg none ?_⟩
  have h1 := hg.put (j := { g.toJobS with held := none }) rfl rfl
  refine ⟨_, rfl, T.jw_share h1 0 ?_⟩
  have h2 := h1.put (j := { g.toJobS with held := none, share := 0 }) rfl rfl
  refine ⟨_, rfl, T.ja_tries h2 ⟨_, _, rfl, rfl, jp_tries h2 (g.tries + 1) rfl ?_⟩⟩
  have h3 := h2.put (j := { g.toJobS with held := none, share := 0, tries := g.tries + 1 }) rfl rfl
  refine ⟨_, rfl, T.jr_tries h3 ⟨_, rfl, T.jr_most h3 ⟨_, _, rfl, rfl, _, rfl, ?_⟩⟩⟩
  unfold JobS.stepFailed at q
  by_cases hm : ((g.tries + 1 : Nat) : Int) ≥ g.most
  · rw [if_pos hm] at q
    change if decide ((g.most : Int) ≤ ((g.tries + 1 : Nat) : Int)) = true then _ else _
    rw [show decide ((g.most : Int) ≤ ((g.tries + 1 : Nat) : Int)) = true from decide_eq_true hm]
    refine iteT ⟨_, rfl, T.jw_ended h3 (some tDead) ?_⟩
    simp only [upd_upd, JobG.W_W, JobG.W_a, JobG.W_dx, JobG.W_S]
    exact q
  · rw [if_neg hm] at q
    change if decide ((g.most : Int) ≤ ((g.tries + 1 : Nat) : Int)) = true then _ else _
    rw [show decide ((g.most : Int) ≤ ((g.tries + 1 : Nat) : Int)) = false from decide_eq_false hm]
    refine iteF ⟨_, rfl, _, rfl, _, rfl, T.jr_tries h3 ⟨_, _, rfl, rfl, ?_⟩⟩
    unfold sp_doubled
    refine ⟨pause, g.tries, ?_, hp, by omega, _, _, rfl, rfl, _, rfl, T.jw_until h3 _ ?_⟩
    · show [V.int pause, V.int (((g.tries + 1 : Nat) : Int) - 1)] = _
      rw [show ((g.tries + 1 : Nat) : Int) - 1 = (g.tries : Int) from by omega]
    · simp only [upd_upd, JobG.W_W, JobG.W_a, JobG.W_dx, JobG.W_S]
      exact q
end LH
end

section
set_option Elab.async false
set_option linter.all false
set_option maxRecDepth 100000
set_option maxHeartbeats 4000000
namespace LH
open PySem PySem.Spec PyProof.Rows L2 StX
variable {P : Program} {w : World} {K : PySem.W.Frag} {mg : Str → Option Value} {base : Heap}
theorem optS_str (e : Option Str) (z : Str) : scal (optS e) (.str z) = true ∧ decide (optS e = .str z) = decide (e = some z) := by
  cases e with
  | none => exact ⟨rfl, by simp [optS]⟩
  | some x => exact ⟨rfl, by simp [optS]⟩
@[irreducible] def sp_Job_let_go (K : PySem.W.Frag) : Sp := fun vs H Q E => ∃ (g : JobG) (tick : Int), vs = [.ref g.a, .int tick] ∧ JobAt K H g ∧ Q .non (upd H g.a (.ins (cJ K) g.dx (jobFs (g.W (g.letGo tick)))))
@[irreducible] def sp_Job_alive_again (K : PySem.W.Frag) : Sp := fun vs H Q E => ∃ (g : JobG) (tick : Int), vs = [.ref g.a, .int tick] ∧ JobAt K H g ∧ Q .non (upd H g.a (.ins (cJ K) g.dx (jobFs (g.W (g.again tick)))))
@[irreducible] def sp_Job_step_done (K : PySem.W.Frag) : Sp := fun vs H Q E => ∃ (g : JobG) (tick : Int), vs = [.ref g.a, .int tick] ∧ JobAt K H g ∧ Q (.bl (decide ((g.stepDone tick).ended = some tDone))) (upd H g.a (.ins (cJ K) g.dx (jobFs (g.W (g.stepDone tick)))))
theorem sc_Job_step_done : FnScope ["self", "tick"] ["self", "tick"] (defScope s_Job_step_done) := ⟨rfl, rfl, rfl, by decide +kernel, rfl, by decide +kernel, by decide +kernel⟩
theorem Tp.ok_Job_step_done (T : Tp P w K mg base) : FnR P w K mg base (L2.CX P w) (0 + 1) (He.ma K (He.ga K "Job") "step_done") (sp_Job_step_done K) := by
  refine fnr (N := ["self", "tick"]) (ps := ["self", "tick"]) (k := 0) T.fd_Job_step_done sc_Job_step_done (fun _ _ _ _ _ _ us hl => match us, hl with | [_, _], _ => rfl) (fun vs H Q E h => ?_) fun cdv A outer s H vs Q E hr h => ?_
  · unfold sp_Job_step_done at h
    obtain ⟨_, _, rfl, _⟩ := h
    rfl
  unfold sp_Job_step_done at h
  obtain ⟨g, tick, rfl, hg, q⟩ := h
  refine ⟨_, (pss_cons (ps_fld (pv 0) pe_non rfl)
      (pss_cons (ps_fld (pv 0) pe_int rfl)
      (pss_cons (ps_fld (pv 0) pe_int rfl)
      (pss_cons (ps_fld (pv 0) (pv 1) rfl)
      (pss_cons (ps_fldaug (pv 0) pe_int in_add)
      (pss_cons (ps_if (pt_cmpR op_eq (pe_fld (pv 0) rfl) (pe_callB call_len_seq rfl T.f_len bt_len (pa_cons (pe_fld (pv 0) rfl) pa_nil)) (nomark _)) (pss_one (ps_fld (pv 0) (pe_gs rfl T.v_DONE) rfl)) pss_nil)
      (pss_one (ps_ret (pe_cmpR op_eq (pe_fld (pv 0) rfl) (pe_gs rfl T.v_DONE) (nomark _)))))))))), ?_⟩
  refine ⟨_, rfl, T.jw_held hg none ?_⟩
  have h1 := hg.put (j := { g.toJobS with held := none }) rfl rfl
  refine ⟨_, rfl, T.jw_tries h1 0 ?_⟩
  have h2 := h1.put (j := { g.toJobS with held := none, tries := 0 }) rfl rfl
  refine ⟨_, rfl, T.jw_share h2 0 ?_⟩
  have h3 := h2.put (j := { g.toJobS with held := none, tries := 0, share := 0 }) rfl rfl
  refine ⟨_, rfl, _, rfl, T.jw_until h3 _ ?_⟩
  have h4 := h3.put (j := { g.toJobS with held := none, tries := 0, share := 0, til := tick }) rfl rfl
  refine ⟨_, rfl, T.ja_done_steps h4 ⟨_, _, rfl, rfl, jp_done_steps h4 (g.fin + 1) rfl ?_⟩⟩
  have h5 := h4.put (j := { g.toJobS with held := none, tries := 0, share := 0, til := tick, fin := g.fin + 1 }) rfl rfl
  refine ⟨_, rfl, T.jr_done_steps h5 ⟨_, rfl, T.jr_steps h5 ⟨_, _, rfl, .inr h5.st, rfl, _, rfl, ?_⟩⟩⟩
  change if decide (V.int ((g.fin + 1 : Nat) : Int) = V.int ((vstrs g.steps).length : Nat)) = true then _ else _
  unfold JobS.stepDone at q
  by_cases hm : g.fin + 1 = g.steps.length
  · rw [if_pos hm] at q
    refine (if_pos (by simp [vstrs, hm])).mpr ⟨_, rfl, T.jw_ended h5 (some tDone) ?_⟩
    have h6 := h5.put (j := { g.toJobS with held := none, tries := 0, share := 0, til := tick, fin := g.fin + 1, ended := some tDone }) rfl rfl
    refine ⟨_, rfl, T.jr_ended h6 ⟨rfl, ?_⟩⟩
    simp only [upd_upd, JobG.W_W, JobG.W_a, JobG.W_dx, JobG.W_S] at q ⊢
    exact q
  · rw [if_neg hm] at q
    refine (if_neg (by simp [vstrs]; omega)).mpr ⟨_, rfl, T.jr_ended h5 ?_⟩
    simp only [upd_upd, JobG.W_W, JobG.W_a, JobG.W_dx, JobG.W_S] at q ⊢
    obtain ⟨z1, z2⟩ := optS_str g.ended tDone
    rw [← z2] at q
    exact ⟨z1, q⟩
@[irreducible] def sp_Lease_shown (K : PySem.W.Frag) : Sp := fun vs H Q E => ∃ g : LeaseG, vs = [.ref g.a] ∧ LeaseAt K H g ∧ ∀ t, H t = none → Q (.ref t) (upd H t (.tup [.int (g.num : Int), .int (g.work : Int), .int (g.step : Int), .str g.worker, .int g.til]))
theorem sc_Lease_shown : FnScope ["self"] ["self"] (defScope s_Lease_shown) := ⟨rfl, rfl, rfl, by decide +kernel, rfl, by decide +kernel, by decide +kernel⟩
theorem Tp.ok_Lease_shown (T : Tp P w K mg base) : FnR P w K mg base (L2.CX P w) (0 + 1) (He.ma K (He.ga K "Lease") "shown") (sp_Lease_shown K) := by
  refine fnr (N := ["self"]) (ps := ["self"]) (k := 0) T.fd_Lease_shown sc_Lease_shown (fun _ _ _ _ _ _ us hl => match us, hl with | [_], _ => rfl) (fun vs H Q E h => ?_) fun cdv A outer s H vs Q E hr h => ?_
  · unfold sp_Lease_shown at h
    obtain ⟨_, rfl, _⟩ := h
    rfl
  unfold sp_Lease_shown at h
  obtain ⟨g, rfl, hg, q⟩ := h
  refine ⟨_, (pss_one (ps_ret (pe_tup (pa_cons (pe_fld (pv 0) rfl) (pa_cons (pe_fld (pv 0) rfl) (pa_cons (pe_fld (pv 0) rfl) (pa_cons (pe_fld (pv 0) rfl) (pa_cons (pe_fld (pv 0) rfl) pa_nil)))))))), ?_⟩
  exact ⟨_, rfl, T.er_number hg ⟨_, rfl, T.er_work hg ⟨_, rfl, T.er_step hg ⟨_, rfl, T.er_worker hg ⟨_, rfl, T.er_until hg ⟨by show 5 ≤ sizeLine; decide, fun t ht => q t ht⟩⟩⟩⟩⟩⟩
@[irreducible] def sp_need_count (K : PySem.W.Frag) : Sp := fun vs H Q E => ∃ i lo hi : Int, vs = [.int i, .int lo, .int hi] ∧ (lo ≤ i ∧ i ≤ hi → Q .non H) ∧ (¬ (lo ≤ i ∧ i ≤ hi) → E (.ref (He.ga K "BadCount")) none H)
theorem sc_need_count : FnScope ["part", "low", "high"] ["part", "low", "high"] (defScope s_need_count) := ⟨rfl, rfl, rfl, by decide +kernel, rfl, by decide +kernel, by decide +kernel⟩
theorem Tp.ok_need_count (T : Tp P w K mg base) : FnR P w K mg base (L2.CX P w) (1 + 1) (He.ga K "need_count") (sp_need_count K) := by
  refine fnr (N := ["part", "low", "high"]) (ps := ["part", "low", "high"]) (k := 1) T.fd_need_count sc_need_count (fun _ _ _ _ _ _ us hl => match us, hl with | [_, _, _], _ => rfl) (fun vs H Q E h => ?_) fun cdv A outer s H vs Q E hr h => ?_
  · unfold sp_need_count at h
    obtain ⟨_, _, _, rfl, _⟩ := h
    rfl
  unfold sp_need_count at h
  obtain ⟨i, lo, hi, rfl, q, qe⟩ := h
  refine ⟨_, (pss_one (ps_if (pt_not (pt_val (pe_callP T.ok_is_number (rm hr) (kp_of T.fd_is_number) rfl T.g_is_number passE (pa_cons (pv 0) (pa_cons (pv 1) (pa_cons (pv 2) pa_nil)))))) (pss_one (ps_raise rfl takesE (pmk_own PySem.F.excBase_ValueError T.x_BadCount.1 T.g_BadCount T.x_BadCount.2.1 (raises_own T.x_BadCount.2.2.1 T.x_BadCount.2.2.2) rfl))) pss_nil)), ?_⟩
  refine ⟨_, rfl, _, rfl, _, rfl, ?_⟩
  show sp_is_number K [.int i, .int lo, .int hi] H _ E
  unfold sp_is_number
  refine ⟨i, lo, hi, rfl, _, rfl, ?_⟩
  by_cases h : lo ≤ i ∧ i ≤ hi
  · rw [decide_eq_true h]
    exact q h
  · rw [decide_eq_false h]
    exact qe h
def isName (s : Str) : Bool := decide (1 ≤ s.length ∧ s.length ≤ 8) && s.cps.toList.all fun c => decide (c ∈ (Str.ofString "abcdefghijklmnopqrstuvwxyz").cps.toList)
@[irreducible] def sp_is_name (K : PySem.W.Frag) : Sp := fun vs H Q E => ∃ x : Str, vs = [.str x] ∧ x.length ≤ sizeLine ∧ ∀ H', Same H H' → Q (.bl (isName x)) H'
theorem sc_is_name : FnScope ["part", "sign"] ["part"] (defScope s_is_name) := ⟨rfl, rfl, rfl, by decide +kernel, rfl, by decide +kernel, by decide +kernel⟩
theorem Tp.ok_is_name (T : Tp P w K mg base) : FnR P w K mg base (L2.CX P w) (0 + 1) (He.ga K "is_name") (sp_is_name K) := by
  refine fnr (N := ["part", "sign"]) (ps := ["part"]) (k := 0) T.fd_is_name sc_is_name (fun _ _ _ _ _ _ us hl => match us, hl with | [_], _ => rfl) (fun vs H Q E h => ?_) fun cdv A outer s H vs Q E hr h => ?_
  · unfold sp_is_name at h
    obtain ⟨_, rfl, _⟩ := h
    rfl
  unfold sp_is_name at h
  obtain ⟨x, rfl, hz, q⟩ := h
  refine ⟨_, (pss_one (ps_ret (pe_and (pe_callB call_isi rfl T.f_isinstance bt_isinstance (pa_cons (pv 0) (pa_cons (pe_ty rfl T.f_str bt_str) pa_nil))) (pe_and (pe_chain op_le op_le pe_int (pe_callB call_len_str rfl T.f_len bt_len (pa_cons (pv 0) pa_nil)) (pe_gi rfl T.v_MOST_LETTERS)) (pe_one (pe_callB (cr_all rfl) rfl T.f_all bt_all (pa_cons (pe_lc (own := [("sign", 1)]) rfl sc_is_name.nd (pi_str (pv 0)) (blkOk_by (own := [("sign", 1)]) (N := ["part", "sign"]) (sc := defScope s_is_name) (by decide +kernel)) (fun _ _ _ _ _ => (pg_name (i := 1) sc_is_name.nd rfl (by first | exact .inl rfl | exact .inr rfl))) (fun _ _ _ _ _ => pts_nil) (fun _ _ _ _ _ => (pe_cmpR op_in_sign (pv 1) (pe_gs rfl T.v_LETTERS) (by rfl)))) pa_nil))))))), ?_⟩
  refine ⟨_, rfl, ⟨_, _, _, _, true, rfl, .ty _, .base (.str _), kit_ty (by decide +kernel), ⟨_, rfl, iteT ?_⟩⟩⟩
  have last : ∀ b : Bool, (isName x = b) → Q (.bl b) H := fun b e => by rw [← e]; exact q H Same.rfl'
  refine ⟨_, rfl, x, rfl, hz, _, _, rfl, rfl, _, rfl, ?_⟩
  by_cases h1 : 1 ≤ x.length
  · refine (if_pos (by simp; omega)).mpr ⟨_, _, rfl, rfl, _, rfl, ?_⟩
    by_cases h2 : x.length ≤ 8
    · refine (if_pos (by simp; omega)).mpr ⟨_, rfl, ?_⟩
      refine ⟨x, rfl, fun D hn => lcS (walk_str (z := x)) x.cps.toList (fun c => some (.bl (decide (c ∈ (Str.ofString "abcdefghijklmnopqrstuvwxyz").cps.toList)))) (by simp) ?_ hn (fun _ _ => trivial) ?_ ?_⟩
      · have : x.cps.size = x.length := rfl
        have : (8 : Nat) < sizeLine := by decide
        omega
      · rintro i c v H1 H' R R0 ec s ⟨rfl, c', ec', rfl⟩ k1 k2
        have e : c = c' := by
          rw [Array.getElem?_toList] at ec
          rw [ec] at ec'
          exact Option.some.inj ec'
        subst e
        exact ⟨rfl, ⟨_, rfl, c, _, rfl, rfl, k1 _ _ rfl Same.rfl'⟩⟩
      · intro H' s e
        refine ⟨_, x.cps.toList.map fun c => decide (c ∈ (Str.ofString "abcdefghijklmnopqrstuvwxyz").cps.toList), rfl, .inl (.inl ?_), ?_⟩
        · rw [e, List.map_map, List.filterMap_eq_map']
          rfl
        · have := q H' s
          rw [show isName x = (x.cps.toList.map fun c => decide (c ∈ (Str.ofString "abcdefghijklmnopqrstuvwxyz").cps.toList)).all id from ?_] at this
          · exact this
          · unfold isName
            rw [decide_eq_true ⟨h1, h2⟩, Bool.true_and, List.all_map]
            rfl
    · refine (if_neg (by simp; omega)).mpr (last _ ?_)
      unfold isName
      rw [decide_eq_false (by omega), Bool.false_and]
  · refine (if_neg (by simp; omega)).mpr ⟨_, rfl, iteF (last _ ?_)⟩
    unfold isName
    rw [decide_eq_false (by omega), Bool.false_and]
end LH
end

section
set_option Elab.async false
set_option linter.all false
set_option maxRecDepth 100000
set_option maxHeartbeats 4000000
namespace LH
open PySem PySem.Spec PyProof.Rows L2 StX
variable {P : Program} {w : World} {K : PySem.W.Frag} {mg : Str → Option Value} {base : Heap}
theorem tyx_tup {H : Hp} {a : Addr} {xs : List V} (h : SqT K H a xs) : TyX K H (.ref a) (.type "tuple") := by
  rcases h with (e | ⟨o, e⟩) | ⟨o, its, n, e, c, _⟩
  · exact .base (.tup e)
  · exact .fTuple e
  · exact .kTuple e c
theorem dT {p A B : Prop} [Decidable p] (h : p) (q : A) : if decide p = true then A else B := by rw [if_pos (decide_eq_true h)]; exact q
theorem dF {p A B : Prop} [Decidable p] (h : ¬ p) (q : B) : if decide p = true then A else B := by rw [if_neg (by simpa using h)]; exact q
theorem nT {p A B : Prop} [Decidable p] (h : ¬ p) (q : A) : if (!decide p) = true then A else B := by rw [if_pos (by simpa using h)]; exact q
theorem nF {p A B : Prop} [Decidable p] (h : p) (q : B) : if (!decide p) = true then A else B := by rw [if_neg (by simpa using h)]; exact q
theorem vlen {l : List Str} : ((vstrs l).length : Int) = (l.length : Int) := by simp [vstrs]
theorem nlen {l : List Nat} : ((vnats l).length : Int) = (l.length : Int) := by simp [vnats]
/-- is_number answers, as a test -/
theorem num_ok {i lo hi : Int} (h : lo ≤ i ∧ i ≤ hi) {H : Hp} {Q : VK} {E : XK} (q : Q (.bl true) H) : sp_is_number K [.int i, .int lo, .int hi] H Q E := by
  unfold sp_is_number
  exact ⟨i, lo, hi, rfl, by rw [decide_eq_true h]; exact q⟩
@[irreducible] def sp_need_tick (K : PySem.W.Frag) : Sp := fun vs H Q E => ∃ i lo : Int, vs = [.int i, .int lo] ∧ (lo ≤ i ∧ i ≤ 99999) ∧ Q .non H
theorem sc_need_tick : FnScope ["part", "low"] ["part", "low"] (defScope s_need_tick) := ⟨rfl, rfl, rfl, by decide +kernel, rfl, by decide +kernel, by decide +kernel⟩
theorem Tp.ok_need_tick (T : Tp P w K mg base) : FnR P w K mg base (L2.CX P w) (1 + 1) (He.ga K "need_tick") (sp_need_tick K) := by
  refine fnr (N := ["part", "low"]) (ps := ["part", "low"]) (k := 1) T.fd_need_tick sc_need_tick (fun _ _ _ _ _ _ us hl => match us, hl with | [_, _], _ => rfl) (fun vs H Q E h => ?_) fun cdv A outer s H vs Q E hr h => ?_
  · unfold sp_need_tick at h
    obtain ⟨_, _, rfl, _⟩ := h
    rfl
  unfold sp_need_tick at h
  obtain ⟨i, lo, rfl, h, q⟩ := h
  refine ⟨_, (pss_one (ps_if (pt_not (pt_val (pe_callP T.ok_is_number (rm hr) (kp_of T.fd_is_number) rfl T.g_is_number passE (pa_cons (pv 0) (pa_cons (pv 1) (pa_cons (pe_gi rfl T.v_MOST_TICK) pa_nil)))))) (pss_one (ps_raise rfl takesE (pmk_own PySem.F.excBase_ValueError T.x_BadTick.1 T.g_BadTick T.x_BadTick.2.1 (raises_own T.x_BadTick.2.2.1 T.x_BadTick.2.2.2) rfl))) pss_nil)), ?_⟩
  exact ⟨_, rfl, _, rfl, num_ok h ⟨_, rfl, q⟩⟩
@[irreducible] def sp_need_rank (K : PySem.W.Frag) : Sp := fun vs H Q E => ∃ i : Int, vs = [.int i] ∧ (0 ≤ i ∧ i ≤ 9) ∧ Q .non H
theorem sc_need_rank : FnScope ["rank"] ["rank"] (defScope s_need_rank) := ⟨rfl, rfl, rfl, by decide +kernel, rfl, by decide +kernel, by decide +kernel⟩
theorem Tp.ok_need_rank (T : Tp P w K mg base) : FnR P w K mg base (L2.CX P w) (1 + 1) (He.ga K "need_rank") (sp_need_rank K) := by
  refine fnr (N := ["rank"]) (ps := ["rank"]) (k := 1) T.fd_need_rank sc_need_rank (fun _ _ _ _ _ _ us hl => match us, hl with | [_], _ => rfl) (fun vs H Q E h => ?_) fun cdv A outer s H vs Q E hr h => ?_
  · unfold sp_need_rank at h
    obtain ⟨_, rfl, _⟩ := h
    rfl
  unfold sp_need_rank at h
  obtain ⟨i, rfl, h, q⟩ := h
  refine ⟨_, (pss_one (ps_if (pt_not (pt_val (pe_callP T.ok_is_number (rm hr) (kp_of T.fd_is_number) rfl T.g_is_number passE (pa_cons (pv 0) (pa_cons pe_int (pa_cons (pe_gi rfl T.v_MOST_RANK) pa_nil)))))) (pss_one (ps_raise rfl takesE (pmk_own PySem.F.excBase_ValueError T.x_BadRank.1 T.g_BadRank T.x_BadRank.2.1 (raises_own T.x_BadRank.2.2.1 T.x_BadRank.2.2.2) rfl))) pss_nil)), ?_⟩
  exact ⟨_, rfl, num_ok h ⟨_, rfl, q⟩⟩
@[irreducible] def sp_need_tries (K : PySem.W.Frag) : Sp := fun vs H Q E => ∃ i : Int, vs = [.int i] ∧ (1 ≤ i ∧ i ≤ 9) ∧ Q .non H
theorem sc_need_tries : FnScope ["tries"] ["tries"] (defScope s_need_tries) := ⟨rfl, rfl, rfl, by decide +kernel, rfl, by decide +kernel, by decide +kernel⟩
theorem Tp.ok_need_tries (T : Tp P w K mg base) : FnR P w K mg base (L2.CX P w) (1 + 1) (He.ga K "need_tries") (sp_need_tries K) := by
  refine fnr (N := ["tries"]) (ps := ["tries"]) (k := 1) T.fd_need_tries sc_need_tries (fun _ _ _ _ _ _ us hl => match us, hl with | [_], _ => rfl) (fun vs H Q E h => ?_) fun cdv A outer s H vs Q E hr h => ?_
  · unfold sp_need_tries at h
    obtain ⟨_, rfl, _⟩ := h
    rfl
  unfold sp_need_tries at h
  obtain ⟨i, rfl, h, q⟩ := h
  refine ⟨_, (pss_one (ps_if (pt_not (pt_val (pe_callP T.ok_is_number (rm hr) (kp_of T.fd_is_number) rfl T.g_is_number passE (pa_cons (pv 0) (pa_cons pe_int (pa_cons (pe_gi rfl T.v_MOST_TRIES) pa_nil)))))) (pss_one (ps_raise rfl takesE (pmk_own PySem.F.excBase_ValueError T.x_BadTries.1 T.g_BadTries T.x_BadTries.2.1 (raises_own T.x_BadTries.2.2.1 T.x_BadTries.2.2.2) rfl))) pss_nil)), ?_⟩
  exact ⟨_, rfl, num_ok h ⟨_, rfl, q⟩⟩
@[irreducible] def sp_need_name (K : PySem.W.Frag) : Sp := fun vs H Q E => ∃ x : Str, vs = [.str x] ∧ isName x = true ∧ ∀ H', Same H H' → Q .non H'
theorem isName_len {x : Str} (h : isName x = true) : x.length ≤ 8 := by
  unfold isName at h
  simp only [Bool.and_eq_true, decide_eq_true_eq] at h
  exact h.1.2
theorem name_ok {x : Str} (h : isName x = true) {H : Hp} {Q : VK} {E : XK} (q : ∀ H', Same H H' → Q (.bl true) H') : sp_is_name K [.str x] H Q E := by
  unfold sp_is_name
  exact ⟨x, rfl, Nat.le_trans (isName_len h) (by decide), fun H' s => by rw [h]; exact q H' s⟩
theorem sc_need_name : FnScope ["part"] ["part"] (defScope s_need_name) := ⟨rfl, rfl, rfl, by decide +kernel, rfl, by decide +kernel, by decide +kernel⟩
theorem Tp.ok_need_name (T : Tp P w K mg base) : FnR P w K mg base (L2.CX P w) (1 + 1) (He.ga K "need_name") (sp_need_name K) := by
  refine fnr (N := ["part"]) (ps := ["part"]) (k := 1) T.fd_need_name sc_need_name (fun _ _ _ _ _ _ us hl => match us, hl with | [_], _ => rfl) (fun vs H Q E h => ?_) fun cdv A outer s H vs Q E hr h => ?_
  · unfold sp_need_name at h
    obtain ⟨_, rfl, _⟩ := h
    rfl
  unfold sp_need_name at h
  obtain ⟨x, rfl, h, q⟩ := h
  refine ⟨_, (pss_one (ps_if (pt_not (pt_val (pe_callP T.ok_is_name (rm hr) (kp_of T.fd_is_name) rfl T.g_is_name passE (pa_cons (pv 0) pa_nil)))) (pss_one (ps_raise rfl takesE (pmk_own PySem.F.excBase_ValueError T.x_BadName.1 T.g_BadName T.x_BadName.2.1 (raises_own T.x_BadName.2.2.1 T.x_BadName.2.2.2) rfl))) pss_nil)), ?_⟩
  exact ⟨_, rfl, name_ok h fun H' s => ⟨_, rfl, q H' s⟩⟩
@[irreducible] def sp_need_steps (K : PySem.W.Frag) : Sp := fun vs H Q E => ∃ (d t : Addr) (kvs : List (Key × V)) (xs : List Str), vs = [.ref d, .ref t] ∧ H d = some (.dK kvs) ∧ SqT K H t (vstrs xs) ∧ (1 ≤ xs.length ∧ xs.length ≤ 5) ∧ (∀ x ∈ xs, isName x = true ∧ (valV kvs (Sum.inr x)).isSome = true) ∧ ∀ H', Same H H' → Q .non H'
theorem sc_need_steps : FnScope ["kinds", "steps", "step"] ["kinds", "steps"] (defScope s_need_steps) := ⟨rfl, rfl, rfl, by decide +kernel, rfl, by decide +kernel, by decide +kernel⟩
theorem Tp.ok_need_steps (T : Tp P w K mg base) : FnR P w K mg base (L2.CX P w) (1 + 1) (He.ga K "need_steps") (sp_need_steps K) := by
  refine fnr (N := ["kinds", "steps", "step"]) (ps := ["kinds", "steps"]) (k := 1) T.fd_need_steps sc_need_steps (fun _ _ _ _ _ _ us hl => match us, hl with | [_, _], _ => rfl) (fun vs H Q E h => ?_) fun cdv A outer s H vs Q E hr h => ?_
  · unfold sp_need_steps at h
    obtain ⟨_, _, _, _, rfl, _⟩ := h
    rfl
  unfold sp_need_steps at h
  obtain ⟨d, t, kvs, xs, rfl, hd, ht, hl, hx, q⟩ := h
  refine ⟨_, (pss_cons (ps_if (PW.pt (pw_or (pt_not (pt_val (pe_callB call_isi rfl T.f_isinstance bt_isinstance (pa_cons (pv 1) (pa_cons (pe_ty rfl T.f_tuple bt_tuple) pa_nil))))) (pw_or1 (pt_not (pt_chain op_le op_le pe_int (pe_callB call_len_seq rfl T.f_len bt_len (pa_cons (pv 1) pa_nil)) (pe_gi rfl T.v_MOST_STEPS)))))) (pss_one (ps_raise rfl takesE (pmk_own PySem.F.excBase_ValueError T.x_BadSteps.1 T.g_BadSteps T.x_BadSteps.2.1 (raises_own T.x_BadSteps.2.2.1 T.x_BadSteps.2.2.2) rfl))) pss_nil)
      (pss_one (ps_for passOwnE rfl (pi_tup (pv 1)) (pg_name (i := 2) sc_need_steps.nd rfl (by first | exact .inl rfl | exact .inr rfl)) (pss_one (ps_if (PW.pt (pw_or (pt_not (pt_val (pe_callP T.ok_is_name (rm hr) (kp_of T.fd_is_name) rfl T.g_is_name passE (pa_cons (pv 2) pa_nil)))) (pw_or1 (pt_cmp (pc_dnotin (hu_of hr) (pv 2) (pv 0)) rfl)))) (pss_one (ps_raise rfl takesE (pmk_own PySem.F.excBase_ValueError T.x_BadSteps.1 T.g_BadSteps T.x_BadSteps.2.1 (raises_own T.x_BadSteps.2.2.1 T.x_BadSteps.2.2.2) rfl))) pss_nil))))), ?_⟩
  refine ⟨_, rfl, ⟨_, _, _, _, true, rfl, .ty _, tyx_tup ht, kit_ty (by decide +kernel), ?_⟩⟩
  refine ⟨_, rfl, _, rfl, _, _, rfl, .inr ht, _, _, rfl, rfl, _, rfl, ?_⟩
  refine dT (by rw [vlen]; omega) ⟨_, _, rfl, rfl, _, rfl, nF (by rw [vlen]; omega) ?_⟩
  refine ⟨_, rfl, t, rfl, ⟨_, ht⟩, for_tup (xs := vstrs xs) (fun i σ H' => Same H H' ∧ ∃ x, σ = [some (.ref d), some (.ref t), x]) ⟨Same.rfl', _, rfl⟩ (fun i σ H' _ p => KeepT.same p.1 _ _ ht) ?_ ?_⟩
  · rintro i v σ H' ev ⟨s, x, rfl⟩
    obtain ⟨y, hy, rfl⟩ := List.mem_map.mp (List.mem_of_getElem? ev)
    obtain ⟨h1, h2⟩ := hx y hy
    refine ⟨_, rfl, name_ok h1 fun H2 s2 => ⟨_, rfl, ?_⟩⟩
    have s3 := Same.trans' s s2
    refine ⟨_, rfl, _, rfl, d, _, rfl, DGet.k (k := Sum.inr y) (s3 _ _ hd), ?_⟩
    rw [h2]
    exact ⟨_, rfl, s3, _, rfl⟩
  · rintro σ H' ⟨s, _, rfl⟩
    exact q H' s
@[irreducible] def sp_need_needs (K : PySem.W.Frag) : Sp := fun vs H Q E => ∃ (m : Int) (t : Addr) (ns : List Nat), vs = [.int m, .ref t] ∧ SqT K H t (vnats ns) ∧ ns.length ≤ 6 ∧ ns.Pairwise (· < ·) ∧ (∀ n ∈ ns, (n : Int) < m) ∧ Q .non H
theorem sc_need_needs : FnScope ["many", "needs", "last", "need"] ["many", "needs"] (defScope s_need_needs) := ⟨rfl, rfl, rfl, by decide +kernel, rfl, by decide +kernel, by decide +kernel⟩
theorem Tp.ok_need_needs (T : Tp P w K mg base) : FnR P w K mg base (L2.CX P w) (1 + 1) (He.ga K "need_needs") (sp_need_needs K) := by
  refine fnr (N := ["many", "needs", "last", "need"]) (ps := ["many", "needs"]) (k := 1) T.fd_need_needs sc_need_needs (fun _ _ _ _ _ _ us hl => match us, hl with | [_, _], _ => rfl) (fun vs H Q E h => ?_) fun cdv A outer s H vs Q E hr h => ?_
  · unfold sp_need_needs at h
    obtain ⟨_, _, _, rfl, _⟩ := h
    rfl
  unfold sp_need_needs at h
  obtain ⟨m, t, ns, rfl, ht, hl, hp, hn, q⟩ := h
  refine ⟨_, (pss_cons (ps_if (PW.pt (pw_or (pt_not (pt_val (pe_callB call_isi rfl T.f_isinstance bt_isinstance (pa_cons (pv 1) (pa_cons (pe_ty rfl T.f_tuple bt_tuple) pa_nil))))) (pw_or1 (pt_cmpR op_gt (pe_callB call_len_seq rfl T.f_len bt_len (pa_cons (pv 1) pa_nil)) (pe_gi rfl T.v_MOST_NEEDS) (nomark _))))) (pss_one (ps_raise rfl takesE (pmk_own PySem.F.excBase_ValueError T.x_BadNeeds.1 T.g_BadNeeds T.x_BadNeeds.2.1 (raises_own T.x_BadNeeds.2.2.1 T.x_BadNeeds.2.2.2) rfl))) pss_nil)
      (pss_cons (ps_set (i := 2) sc_need_needs.nd rfl (by first | exact .inl rfl | exact .inr rfl) (pe_un un_neg pe_int))
      (pss_one (ps_for passOwnE rfl (pi_tup (pv 1)) (pg_name (i := 3) sc_need_needs.nd rfl (by first | exact .inl rfl | exact .inr rfl)) (pss_cons (ps_if (pt_not (pt_val (pe_callP T.ok_is_number (rm hr) (kp_of T.fd_is_number) rfl T.g_is_number passE (pa_cons (pv 3) (pa_cons (pe_op op_add (pv 2) pe_int) (pa_cons (pe_op op_sub (pv 0) pe_int) pa_nil)))))) (pss_one (ps_raise rfl takesE (pmk_own PySem.F.excBase_ValueError T.x_BadNeeds.1 T.g_BadNeeds T.x_BadNeeds.2.1 (raises_own T.x_BadNeeds.2.2.1 T.x_BadNeeds.2.2.2) rfl))) pss_nil)
      (pss_one (ps_set (i := 2) sc_need_needs.nd rfl (by first | exact .inl rfl | exact .inr rfl) (pv 3)))))))), ?_⟩
  refine ⟨_, rfl, ⟨_, _, _, _, true, rfl, .ty _, tyx_tup ht, kit_ty (by decide +kernel), ?_⟩⟩
  refine ⟨_, rfl, _, rfl, _, _, rfl, .inr ht, _, _, rfl, rfl, _, rfl, dF (by rw [nlen]; omega) ?_⟩
  refine ⟨_, rfl, ?_⟩
  refine ⟨_, rfl, t, rfl, ⟨_, ht⟩, for_tup (xs := vnats ns) (fun i σ H' => H' = H ∧ ∃ (x : Option V) (l : Int), σ = [some (.int m), some (.ref t), some (.int l), x] ∧ ∀ (j : Nat) (n : Nat), i ≤ j → ns[j]? = some n → l < (n : Int)) ?_ ?_ ?_ ?_⟩
  · exact ⟨rfl, none, -1, rfl, fun j n _ _ => by omega⟩
  · rintro i σ H' _ ⟨rfl, _⟩
    exact ht
  · rintro i v σ H' ev ⟨rfl, x, l, rfl, hb⟩
    unfold vnats at ev
    rw [List.getElem?_map] at ev
    cases ei : ns[i]? with
    | none => rw [ei] at ev; cases ev
    | some n =>
      rw [ei] at ev
      obtain rfl : V.int (n : Nat) = v := Option.some.inj ev
      have h1 := hb i n (Nat.le_refl _) ei
      have h2 := hn n (List.mem_of_getElem? ei)
      refine ⟨_, rfl, _, rfl, _, _, rfl, rfl, _, rfl, _, _, rfl, rfl, ?_⟩
      refine num_ok (by constructor <;> omega) ⟨_, rfl, ?_⟩
      refine ⟨_, rfl, rfl, some (.int n), n, rfl, fun j k hj ek => ?_⟩
      obtain ⟨p1, p2⟩ := List.getElem?_eq_some_iff.mp ei
      obtain ⟨p3, p4⟩ := List.getElem?_eq_some_iff.mp ek
      have := List.pairwise_iff_getElem.mp hp i j p1 p3 (by omega)
      rw [p2, p4] at this
      omega
  · rintro σ H' ⟨rfl, _⟩
    exact q
@[irreducible] def sp_is_kind (K : PySem.W.Frag) : Sp := fun vs H Q E => ∃ (t : Addr) (x : Str) (m r : Int), vs = [.ref t] ∧ SqT K H t [.str x, .int m, .int r] ∧ isName x = true ∧ (1 ≤ m ∧ m ≤ 9) ∧ (1 ≤ r ∧ r ≤ 99) ∧ ∀ H', Same H H' → Q (.bl true) H'
theorem sc_is_kind : FnScope ["row"] ["row"] (defScope s_is_kind) := ⟨rfl, rfl, rfl, by decide +kernel, rfl, by decide +kernel, by decide +kernel⟩
theorem Tp.ok_is_kind (T : Tp P w K mg base) : FnR P w K mg base (L2.CX P w) (1 + 1) (He.ga K "is_kind") (sp_is_kind K) := by
  refine fnr (N := ["row"]) (ps := ["row"]) (k := 1) T.fd_is_kind sc_is_kind (fun _ _ _ _ _ _ us hl => match us, hl with | [_], _ => rfl) (fun vs H Q E h => ?_) fun cdv A outer s H vs Q E hr h => ?_
  · unfold sp_is_kind at h
    obtain ⟨_, _, _, _, rfl, _⟩ := h
    rfl
  unfold sp_is_kind at h
  obtain ⟨t, x, m, r, rfl, ht, hx, hm, hr', q⟩ := h
  refine ⟨_, (pss_cons (ps_if (PW.pt (pw_or (pt_not (pt_val (pe_callB call_isi rfl T.f_isinstance bt_isinstance (pa_cons (pv 0) (pa_cons (pe_ty rfl T.f_tuple bt_tuple) pa_nil))))) (pw_or (pt_cmpR op_ne (pe_callB call_len_seq rfl T.f_len bt_len (pa_cons (pv 0) pa_nil)) pe_int (nomark _)) (pw_or1 (pt_not (pt_val (pe_callP T.ok_is_name (rm hr) (kp_of T.fd_is_name) rfl T.g_is_name passE (pa_cons (pe_ix ix_tup (pv 0) pe_int (fun _ _ => rfl)) pa_nil)))))))) (pss_one (ps_ret pe_bl)) pss_nil)
      (pss_one (ps_ret (pe_and (pe_callP T.ok_is_number (rm hr) (kp_of T.fd_is_number) rfl T.g_is_number passE (pa_cons (pe_ix ix_tup (pv 0) pe_int (fun _ _ => rfl)) (pa_cons pe_int (pa_cons (pe_gi rfl T.v_MOST_AT_ONCE) pa_nil)))) (pe_one (pe_callP T.ok_is_number (rm hr) (kp_of T.fd_is_number) rfl T.g_is_number passE (pa_cons (pe_ix ix_tup (pv 0) pe_int (fun _ _ => rfl)) (pa_cons pe_int (pa_cons (pe_gi rfl T.v_MOST_RATE) pa_nil))))))))), ?_⟩
  refine ⟨_, rfl, ⟨_, _, _, _, true, rfl, .ty _, tyx_tup ht, kit_ty (by decide +kernel), ?_⟩⟩
  refine ⟨_, rfl, _, rfl, _, _, rfl, .inr ht, rfl, _, rfl, _, rfl, _, _, _, _, rfl, rfl, ht, rfl, ?_⟩
  refine name_ok hx fun H' s => ⟨_, rfl, ?_⟩
  have ht' := KeepT.same s _ _ ht
  refine ⟨_, rfl, _, _, _, _, rfl, rfl, ht', rfl, num_ok hm ⟨_, rfl, ?_⟩⟩
  exact ⟨_, rfl, _, _, _, _, rfl, rfl, ht', rfl, num_ok hr' (q H' s)⟩
end LH
end

section
set_option Elab.async false
set_option linter.all false
set_option maxRecDepth 100000
set_option maxHeartbeats 4000000
namespace LH
open PySem PySem.Spec PyProof.Rows L2 StX
variable {P : Program} {w : World} {K : PySem.W.Frag} {mg : Str → Option Value} {base : Heap}
/-- a row that is never reached -/
theorem ps_dead {X : Cx} {st : Stmt} : PS X st (fun _ _ _ => False) := ⟨fun _ _ _ _ _ _ h => h.elim⟩
theorem walk_enumT {K : PySem.W.Frag} {a : Addr} {xs : List V} : Walk (IteT K a) xs.length (fun H => SqT K H a xs) (YPair (fun i => some (.int (i : Nat))) (fun i => xs[i]?)) := by
  refine ⟨fun i _ hi q => ⟨xs, xs[i], q, by simp [hi]⟩, fun _ q => ⟨xs, q, Nat.le_refl _⟩, fun i H v H' _ q y => ?_⟩
  obtain ⟨t, x, h1, h2, h3, h4⟩ := y
  exact ⟨t, .int (i : Nat), x, h1, h2, h3, rfl, h4 xs q⟩
theorem cut_take {xs : List V} {i : Nat} (h : i ≤ xs.length) : cutV xs none (some (i : Int)) = xs.take i := by
  unfold cutV
  rw [HT.sIx_none, HT.sIx_nat, List.drop_zero, Nat.min_eq_left h, Nat.sub_zero]
theorem strs_flat (l : List Str) : (vstrs l).all flatV = true := by
  unfold vstrs
  rw [List.all_map]
  exact List.all_eq_true.mpr fun _ _ => rfl
theorem inV_strs (x : Str) (l : List Str) : inV (.str x) (vstrs l) = decide (x ∈ l) := by
  unfold inV vstrs
  rw [List.any_map, Bool.eq_iff_iff, List.any_eq_true, decide_eq_true_eq]
  constructor
  · rintro ⟨y, hy, e⟩
    have : y = x := by simpa [eqV] using e
    rwa [← this]
  · exact fun h => ⟨x, h, by simp [eqV]⟩
structure PlanG where
  a : Addr
  kind : Str
  most : Int
  rate : Int
def PlanAt (K : PySem.W.Frag) (H : Hp) (t : Addr) (l : List PlanG) : Prop := SqT K H t (refs (·.a) l) ∧ ∀ r ∈ l, SqT K H r.a [.str r.kind, .int r.most, .int r.rate]
theorem PlanAt.same {H H' : Hp} {t : Addr} {l : List PlanG} (h : PlanAt K H t l) (s : Same H H') : PlanAt K H' t l := ⟨KeepT.same s _ _ h.1, fun r hr => KeepT.same s _ _ (h.2 r hr)⟩
structure PlanOk (l : List PlanG) : Prop where
  ne : l ≠ []
  len : l.length ≤ 6
  row : ∀ r ∈ l, isName r.kind = true ∧ (1 ≤ r.most ∧ r.most ≤ 9) ∧ (1 ≤ r.rate ∧ r.rate ≤ 99)
  nd : (l.map (·.kind)).Nodup
theorem kind_ok {t : Addr} {x : Str} {m r : Int} {H : Hp} {Q : VK} {E : XK} (ht : SqT K H t [.str x, .int m, .int r]) (h : isName x = true ∧ (1 ≤ m ∧ m ≤ 9) ∧ (1 ≤ r ∧ r ≤ 99)) (q : ∀ H', Same H H' → Q (.bl true) H') : sp_is_kind K [.ref t] H Q E := by
  unfold sp_is_kind
  exact ⟨t, x, m, r, rfl, ht, h.1, h.2.1, h.2.2, q⟩
@[irreducible] def sp_need_plan (K : PySem.W.Frag) : Sp := fun vs H Q E => ∃ (t : Addr) (l : List PlanG) (d : PyData), vs = [.ref t] ∧ Dt K H (.ref t) d ∧ SeqAt.shaped d = true ∧ PyData.eqv d (.tuple []) = false ∧ PlanAt K H t l ∧ PlanOk l ∧ ∀ H', Same H H' → Q .non H'
theorem sc_need_plan : FnScope ["plan", "number", "row", "other"] ["plan"] (defScope s_need_plan) := ⟨rfl, rfl, rfl, by decide +kernel, rfl, by decide +kernel, by decide +kernel⟩
theorem Tp.ok_need_plan (T : Tp P w K mg base) : FnR P w K mg base (L2.CX P w) (2 + 1) (He.ga K "need_plan") (sp_need_plan K) := by
  refine fnr (N := ["plan", "number", "row", "other"]) (ps := ["plan"]) (k := 2) T.fd_need_plan sc_need_plan (fun _ _ _ _ _ _ us hl => match us, hl with | [_], _ => rfl) (fun vs H Q E h => ?_) fun cdv A outer s H vs Q E hr h => ?_
  · unfold sp_need_plan at h
    obtain ⟨_, _, _, rfl, _⟩ := h
    rfl
  unfold sp_need_plan at h
  obtain ⟨t, l, d, rfl, hd, sd, ed, hp, ok, q⟩ := h
  refine ⟨_, (pss_cons (ps_if (PW.pt (pw_or (pt_not (pt_val (pe_callB call_isi rfl T.f_isinstance bt_isinstance (pa_cons (pv 0) (pa_cons (pe_ty rfl T.f_tuple bt_tuple) pa_nil))))) (pw_or1 (pt_cmpR (op_eqD hr.units) (pv 0) (pe_tup pa_nil) (nomark _))))) (pss_one ps_dead) pss_nil)
      (pss_one (ps_for passOwnE rfl (pi_enumT rfl T.f_enumerate (pa_cons (pv 0) pa_nil)) (pg_tup rfl (pgs_cons (pg_name (i := 1) sc_need_plan.nd rfl (by first | exact .inl rfl | exact .inr rfl)) (pgs_cons (pg_name (i := 2) sc_need_plan.nd rfl (by first | exact .inl rfl | exact .inr rfl)) pgs_nil))) (pss_one (ps_if (PW.pt (pw_or (pt_cmpR op_ge (pv 1) (pe_gi rfl T.v_MOST_KINDS) (nomark _)) (pw_or (pt_not (pt_val (pe_callP T.ok_is_kind (rm hr) (kp_of T.fd_is_kind) rfl T.g_is_kind passE (pa_cons (pv 2) pa_nil)))) (pw_or1 (pt_cmpR op_in_seq (pe_ix ix_tup (pv 2) pe_int (fun _ _ => rfl)) (pe_lc (own := [("other", 3)]) rfl sc_need_plan.nd (pi_tup (pe_slice sl_tup (pv 0) po_none (po_some (pv 1)))) (blkOk_by (own := [("other", 3)]) (N := ["plan", "number", "row", "other"]) (sc := defScope s_need_plan) (by decide +kernel)) (fun _ _ _ _ _ => (pg_name (i := 3) sc_need_plan.nd rfl (by first | exact .inl rfl | exact .inr rfl))) (fun _ _ _ _ _ => pts_nil) (fun _ _ _ _ _ => (pe_ix (ix_tupK K rfl) (pv 3) pe_int (fun _ _ => rfl)))) (by rfl)))))) (pss_one ps_dead) pss_nil))))), ?_⟩
  refine ⟨_, rfl, ⟨_, _, _, _, true, rfl, .ty _, tyx_tup hp.1, kit_ty (by decide +kernel), ⟨_, rfl, ?_⟩⟩⟩
  refine ⟨_, rfl, ⟨by show 0 ≤ sizeLine; decide, fun e he => ?_⟩⟩
  have s1 := same_new (o := .tup []) he
  refine ⟨d, .tuple [], (hd.keep (KeepT.same s1)).dp, (Dt.tup (xs := []) (SqT.of upd_same) .nil).dp, sd, by decide +kernel, ?_⟩
  rw [ed]
  refine ⟨_, rfl, _, rfl, _, _, rfl, KeepT.same s1 _ _ hp.1, for_it walk_enumT (fun i σ H' => Same H H' ∧ ∃ x y z, σ = [some (.ref t), x, y, z]) ⟨s1, _, _, _, rfl⟩ (fun i σ H' _ p => KeepT.same p.1 _ _ hp.1) ?_ ?_⟩
  · rintro i v σ H1 H2 hi ⟨s, x, y, z, rfl⟩ ⟨p, a, b, rfl, hn, rfl, ea, eb⟩
    obtain rfl : V.int (i : Nat) = a := Option.some.inj ea
    obtain ⟨r, hr, rfl⟩ : ∃ r, l[i]? = some r ∧ V.ref r.a = b := by
      have eb : (refs (·.a) l)[i]? = some b := eb
      unfold refs at eb
      rw [List.getElem?_map] at eb
      cases er : l[i]? with
      | none => rw [er] at eb; cases eb
      | some r => rw [er] at eb; exact ⟨r, rfl, Option.some.inj eb⟩
    have hi' : i < l.length := (List.getElem?_eq_some_iff.mp hr).1
    have s2 := Same.trans' s (same_new (o := .tup [.int (i : Nat), .ref r.a]) hn)
    refine ⟨p, _, rfl, SqT.of upd_same, rfl, _, _, rfl, _, _, rfl, rfl, ?_⟩
    have ok' := ok.len
    refine ⟨_, rfl, _, _, rfl, rfl, _, rfl, dF (by omega) ?_⟩
    refine ⟨_, rfl, kind_ok (KeepT.same s2 _ _ (hp.2 r (List.mem_of_getElem? hr))) (ok.row r (List.mem_of_getElem? hr)) fun H3 s3 => ⟨_, rfl, ?_⟩⟩
    have s4 := Same.trans' s2 s3
    refine ⟨_, rfl, _, _, _, _, rfl, rfl, KeepT.same s4 _ _ (hp.2 r (List.mem_of_getElem? hr)), rfl, ?_⟩
    have hlen : (refs (·.a) l).length = l.length := by simp [refs]
    refine ⟨_, rfl, _, rfl, i, rfl, t, _, rfl, KeepT.same s4 _ _ hp.1, ?_, fun c hc => ?_⟩
    · rw [HT.sIx_none, HT.sIx_nat, hlen]
      omega
    · rw [cut_take (by omega)]
      have s5 := Same.trans' s4 (same_new (o := .tup ((refs (·.a) l).take i)) hc)
      refine ⟨c, rfl, ⟨_, SqT.of upd_same⟩, lcT (xs := (refs (·.a) l).take i) (l.take i) (fun r => V.ref r.a) (fun r => some (V.str r.kind)) (by unfold refs; rw [List.map_take]) (SqT.of upd_same) ?_ ?_ ?_⟩
      · have h8 : (8 : Nat) < sizeLine := by decide
        rw [List.length_take]
        omega
      · intro j b Hc R R0 eb sc k1 _
        have hb : b ∈ l := List.mem_of_mem_take (List.mem_of_getElem? eb)
        exact ⟨rfl, ⟨_, rfl, _, _, _, _, rfl, rfl, KeepT.same (Same.trans' s5 sc) _ _ (hp.2 b hb), rfl, k1 _ _ rfl Same.rfl'⟩⟩
      · intro D H4 _ s6 e4
        have e5 : (l.take i).filterMap (fun r => some (V.str r.kind)) = vstrs ((l.take i).map (·.kind)) := by
          rw [List.filterMap_eq_map', vstrs, List.map_map]
          rfl
        rw [e5] at e4
        refine ⟨D, _, rfl, .inl (.inl (.inl e4)), rfl, strs_flat _, ?_⟩
        have hnot : ¬ r.kind ∈ (l.take i).map (·.kind) := fun hm => by
          have nd := ok.nd
          have e6 : l = l.take i ++ l.drop i := (List.take_append_drop i l).symm
          rw [e6, List.map_append, List.nodup_append] at nd
          have hr2 : r ∈ l.drop i := List.mem_of_getElem? (i := 0) (by rw [List.getElem?_drop]; exact hr)
          exact nd.2.2 _ hm _ (List.mem_map.mpr ⟨r, hr2, rfl⟩) rfl
        show ∃ k, V.bl (inV (.str r.kind) (vstrs ((l.take i).map (·.kind)))) = V.bl k ∧ _
        rw [inV_strs, decide_eq_false hnot]
        exact ⟨_, rfl, Same.trans' s5 s6, _, _, _, rfl⟩
  · rintro σ H' ⟨s, _, _, _, rfl⟩
    exact q H' s
end LH
end

section
set_option Elab.async false
set_option linter.all false
set_option maxRecDepth 100000
set_option maxHeartbeats 4000000
namespace LH
open PySem PySem.Spec PyProof.Rows L2 StX
variable {P : Program} {w : World} {K : PySem.W.Frag} {mg : Str → Option Value} {base : Heap}
/-! ### from the ghost to the plain house -/
theorem er_job (G : HG) (i : Nat) : G.er.jobs[i]? = (G.jobs[i]?).map (·.toJobS) := by simp [HG.er]
theorem er_job' {G : HG} {i : Nat} {j : JobS} (h : G.er.jobs[i]? = some j) : ∃ g, G.jobs[i]? = some g ∧ g.toJobS = j := by
  rw [er_job] at h
  cases e : G.jobs[i]? with
  | none => rw [e] at h; cases h
  | some g => rw [e] at h; exact ⟨g, rfl, Option.some.inj h⟩
theorem er_ended (G : HG) (n : Nat) : G.er.ended n = (G.jobs[n]?).bind (·.ended) := by
  unfold HouseS.ended
  rw [er_job]
  cases G.jobs[n]? <;> rfl
theorem find_map {α β : Type} (f : α → β) (p : β → Bool) (l : List α) : (l.map f).find? p = (l.find? fun a => p (f a)).map f := by
  induction l with
  | nil => rfl
  | cons a l ih =>
    rw [List.map_cons, List.find?_cons, List.find?_cons]
    cases p (f a) with
    | true => rfl
    | false => exact ih
theorem er_row (G : HG) (k : Str) : G.er.row k = (G.rows.find? fun r => decide (r.kind = k)).map (·.toRowS) := find_map _ _ _
theorem er_lease (G : HG) (n : Nat) : G.er.lease n = (G.cnt.find? fun l => decide (l.num = n)).map (·.toLeaseS) := find_map _ _ _
theorem row_get (G : HG) (k : Str) : valV (rowsD G.rows) (Sum.inr k) = (G.rows.find? fun r => decide (r.kind = k)).map fun r => V.ref r.a := by
  unfold valV rowsD
  rw [find_map, Option.map_map]
  rw [show (fun a : RowG => decide ((Sum.inr a.kind, V.ref a.a).1 = (Sum.inr k : Key))) = fun r => decide (r.kind = k) from funext fun r => by simp]
  rfl
theorem cnt_get (G : HG) (n : Nat) : valV (cntD G.cnt) (Sum.inl (n : Int)) = (G.cnt.find? fun l => decide (l.num = n)).map fun r => V.ref r.a := by
  unfold valV cntD
  rw [find_map, Option.map_map]
  rw [show (fun a : LeaseG => decide ((Sum.inl (a.num : Int), V.ref a.a).1 = (Sum.inl (n : Int) : Key))) = fun r => decide (r.num = n) from funext fun r => by simp [Int.ofNat_inj]]
  rfl
theorem staff_get (G : HG) (n : Str) : valV (staffD G.staff) (Sum.inr n) = (G.staff.find? fun l => decide (l.name = n)).map fun r => V.ref r.t := by
  unfold valV staffD
  rw [find_map, Option.map_map]
  rw [show (fun a : StaffG => decide ((Sum.inr a.name, V.ref a.t).1 = (Sum.inr n : Key))) = fun r => decide (r.name = n) from funext fun r => by simp]
  rfl
theorem row_some {G : HG} {k : Str} {r : RowS} (h : G.er.row k = some r) : ∃ (i : Nat) (g : RowG), G.rows.find? (fun r => decide (r.kind = k)) = some g ∧ G.rows[i]? = some g ∧ g.toRowS = r ∧ g.kind = k := by
  rw [er_row] at h
  cases e : G.rows.find? fun r => decide (r.kind = k) with
  | none => rw [e] at h; cases h
  | some g =>
    rw [e] at h
    obtain ⟨i, hi, hg⟩ := List.getElem_of_mem (List.mem_of_find?_eq_some e)
    have := List.find?_some e
    exact ⟨i, g, rfl, by rw [← hg]; simp [hi], Option.some.inj h, by simpa using this⟩
theorem isD {H : Hp} {a : Addr} {kvs : List (Key × V)} (h : H a = some (.dK kvs)) : IsD H a := .inl ⟨kvs, .inl h⟩
/-! ### the small defs -/
@[irreducible] def sp_House_now (K : PySem.W.Frag) : Sp := fun vs H Q E => ∃ G : HG, vs = [.ref G.p] ∧ HouseAt K H G ∧ Q (.int G.here) H
theorem sc_House_now : FnScope ["self"] ["self"] (defScope s_House_now) := ⟨rfl, rfl, rfl, by decide +kernel, rfl, by decide +kernel, by decide +kernel⟩
theorem Tp.ok_House_now (T : Tp P w K mg base) : FnR P w K mg base (L2.CX P w) (0 + 1) (He.ma K (He.ga K "House") "now") (sp_House_now K) := by
  refine fnr (N := ["self"]) (ps := ["self"]) (k := 0) T.fd_House_now sc_House_now (fun _ _ _ _ _ _ us hl => match us, hl with | [_], _ => rfl) (fun vs H Q E h => ?_) fun cdv A outer s H vs Q E hr h => ?_
  · unfold sp_House_now at h
    obtain ⟨_, rfl, _⟩ := h
    rfl
  unfold sp_House_now at h
  obtain ⟨G, rfl, hg, q⟩ := h
  refine ⟨_, (pss_one (ps_ret (pe_fld (pv 0) rfl))), ?_⟩
  exact ⟨_, rfl, T.hr_here hg q⟩
@[irreducible] def sp_House_job (K : PySem.W.Frag) : Sp := fun vs H Q E => ∃ (G : HG) (n : Nat) (g : JobG), vs = [.ref G.p, .int (n : Int)] ∧ HouseAt K H G ∧ G.jobs[n]? = some g ∧ Q (.ref g.a) H
theorem refs_at {α : Type} {f : α → Addr} {l : List α} {i : Nat} {x : α} (h : l[i]? = some x) : (refs f l)[i]? = some (.ref (f x)) := by simp [refs, h]
theorem refs_len {α : Type} {f : α → Addr} {l : List α} : ((refs f l).length : Int) = (l.length : Int) := by simp [refs]
theorem sc_House_job : FnScope ["self", "number"] ["self", "number"] (defScope s_House_job) := ⟨rfl, rfl, rfl, by decide +kernel, rfl, by decide +kernel, by decide +kernel⟩
theorem Tp.ok_House_job (T : Tp P w K mg base) : FnR P w K mg base (L2.CX P w) (1 + 1) (He.ma K (He.ga K "House") "job") (sp_House_job K) := by
  refine fnr (N := ["self", "number"]) (ps := ["self", "number"]) (k := 1) T.fd_House_job sc_House_job (fun _ _ _ _ _ _ us hl => match us, hl with | [_, _], _ => rfl) (fun vs H Q E h => ?_) fun cdv A outer s H vs Q E hr h => ?_
  · unfold sp_House_job at h
    obtain ⟨_, _, _, rfl, _⟩ := h
    rfl
  unfold sp_House_job at h
  obtain ⟨G, n, g, rfl, hg, hn, q⟩ := h
  refine ⟨_, (pss_cons (ps_if (pt_not (pt_val (pe_callP T.ok_is_number (rm hr) (kp_of T.fd_is_number) rfl T.g_is_number passE (pa_cons (pv 1) (pa_cons pe_int (pa_cons (pe_op op_sub (pe_callB call_len_seq rfl T.f_len bt_len (pa_cons (pe_fld (pv 0) rfl) pa_nil)) pe_int) pa_nil)))))) (pss_one (ps_raise rfl takesE (pmk_own PySem.F.excBase_ValueError T.x_NoJob.1 T.g_NoJob T.x_NoJob.2.1 (raises_own T.x_NoJob.2.2.1 T.x_NoJob.2.2.2) rfl))) pss_nil)
      (pss_one (ps_ret (pe_ix ix_list (pe_fld (pv 0) rfl) (pv 1) (fun _ _ => rfl))))), ?_⟩
  have hl := (List.getElem?_eq_some_iff.mp hn).1
  refine ⟨_, rfl, _, rfl, T.hr_jobs hg ⟨_, _, rfl, .inl (SqL.of hg.jl), _, _, rfl, rfl, ?_⟩⟩
  refine num_ok (by rw [refs_len]; omega) ⟨_, rfl, ?_⟩
  exact ⟨_, rfl, T.hr_jobs hg ⟨_, rfl, _, _, _, _, rfl, rfl, SqL.of hg.jl, atI_nat (refs_at hn), q⟩⟩
@[irreducible] def sp_House_note (K : PySem.W.Frag) : Sp := fun vs H Q E => ∃ (G : HG) (v : V), vs = [.ref G.p, v] ∧ HouseAt K H G ∧ G.log.length < sizeLine ∧ Q .non (upd H G.el (.lst (G.log.map (·.1) ++ [v])))
theorem sc_House_note : FnScope ["self", "entry"] ["self", "entry"] (defScope s_House_note) := ⟨rfl, rfl, rfl, by decide +kernel, rfl, by decide +kernel, by decide +kernel⟩
theorem Tp.ok_House_note (T : Tp P w K mg base) : FnR P w K mg base (L2.CX P w) (0 + 1) (He.ma K (He.ga K "House") "note") (sp_House_note K) := by
  refine fnr (N := ["self", "entry"]) (ps := ["self", "entry"]) (k := 0) T.fd_House_note sc_House_note (fun _ _ _ _ _ _ us hl => match us, hl with | [_, _], _ => rfl) (fun vs H Q E h => ?_) fun cdv A outer s H vs Q E hr h => ?_
  · unfold sp_House_note at h
    obtain ⟨_, _, rfl, _⟩ := h
    rfl
  unfold sp_House_note at h
  obtain ⟨G, v, rfl, hg, hl, q⟩ := h
  refine ⟨_, (pss_one (ps_expr (pe_bm PySem.F.plainAttrs_list PySem.F.slot_list_append PySem.F.type_list_append mt_append (pe_fld (pv 0) rfl) (pa_cons (pv 1) pa_nil)))), ?_⟩
  exact ⟨_, rfl, T.hr_entries hg ⟨.inl ⟨rfl, _, SqL.of hg.el⟩, _, rfl, _, _, _, rfl, rfl, hg.el, by simpa using hl, q⟩⟩
@[irreducible] def sp_House_lease (K : PySem.W.Frag) : Sp := fun vs H Q E => ∃ (G : HG) (n : Nat), vs = [.ref G.p, .int (n : Int)] ∧ HouseAt K H G ∧ n < G.given ∧ Q (((G.cnt.find? fun l => decide (l.num = n)).map fun r => V.ref r.a).getD .non) H
theorem sc_House_lease : FnScope ["self", "number"] ["self", "number"] (defScope s_House_lease) := ⟨rfl, rfl, rfl, by decide +kernel, rfl, by decide +kernel, by decide +kernel⟩
theorem Tp.ok_House_lease (T : Tp P w K mg base) : FnR P w K mg base (L2.CX P w) (1 + 1) (He.ma K (He.ga K "House") "lease") (sp_House_lease K) := by
  refine fnr (N := ["self", "number"]) (ps := ["self", "number"]) (k := 1) T.fd_House_lease sc_House_lease (fun _ _ _ _ _ _ us hl => match us, hl with | [_, _], _ => rfl) (fun vs H Q E h => ?_) fun cdv A outer s H vs Q E hr h => ?_
  · unfold sp_House_lease at h
    obtain ⟨_, _, rfl, _⟩ := h
    rfl
  unfold sp_House_lease at h
  obtain ⟨G, n, rfl, hg, hn, q⟩  := h
  refine ⟨_, (pss_cons (ps_if (pt_not (pt_val (pe_callP T.ok_is_number (rm hr) (kp_of T.fd_is_number) rfl T.g_is_number passE (pa_cons (pv 1) (pa_cons pe_int (pa_cons (pe_op op_sub (pe_fld (pv 0) rfl) pe_int) pa_nil)))))) (pss_one (ps_raise rfl takesE (pmk_own PySem.F.excBase_ValueError T.x_NoLease.1 T.g_NoLease T.x_NoLease.2.1 (raises_own T.x_NoLease.2.2.1 T.x_NoLease.2.2.2) rfl))) pss_nil)
      (pss_one (ps_ret (pe_dget1 (hu_of hr) (pe_fld (pv 0) rfl) (pv 1) ⟨rfl, rfl, rfl, rfl⟩)))), ?_⟩
  refine ⟨_, rfl, _, rfl, T.hr_given hg ⟨_, _, rfl, rfl, ?_⟩⟩
  refine num_ok (by omega) ⟨_, rfl, ?_⟩
  refine ⟨_, rfl, T.hr_counting hg ⟨_, rfl, ?_⟩⟩
  refine ⟨isD hg.cd, _, rfl, _, DGet.k (k := Sum.inl (n : Int)) hg.cd, ?_⟩
  rw [cnt_get]
  exact q
@[irreducible] def sp_House_need_kind (K : PySem.W.Frag) : Sp := fun vs H Q E => ∃ (G : HG) (k : Str) (r : RowS), vs = [.ref G.p, .str k] ∧ HouseAt K H G ∧ isName k = true ∧ G.er.row k = some r ∧ ∀ H', Same H H' → Q .non H'
@[irreducible] def sp_House_need_worker (K : PySem.W.Frag) : Sp := fun vs H Q E => ∃ (G : HG) (k : Str) (s : StaffG), vs = [.ref G.p, .str k] ∧ HouseAt K H G ∧ isName k = true ∧ (G.staff.find? fun l => decide (l.name = k)) = some s ∧ ∀ H', Same H H' → Q .non H'
theorem sc_House_need_worker : FnScope ["self", "worker"] ["self", "worker"] (defScope s_House_need_worker) := ⟨rfl, rfl, rfl, by decide +kernel, rfl, by decide +kernel, by decide +kernel⟩
theorem Tp.ok_House_need_worker (T : Tp P w K mg base) : FnR P w K mg base (L2.CX P w) (1 + 1) (He.ma K (He.ga K "House") "need_worker") (sp_House_need_worker K) := by
  refine fnr (N := ["self", "worker"]) (ps := ["self", "worker"]) (k := 1) T.fd_House_need_worker sc_House_need_worker (fun _ _ _ _ _ _ us hl => match us, hl with | [_, _], _ => rfl) (fun vs H Q E h => ?_) fun cdv A outer s H vs Q E hr h => ?_
  · unfold sp_House_need_worker at h
    obtain ⟨_, _, _, rfl, _⟩ := h
    rfl
  unfold sp_House_need_worker at h
  obtain ⟨G, k, s0, rfl, hg, hk, hs, q⟩ := h
  refine ⟨_, (pss_one (ps_if (PW.pt (pw_or (pt_not (pt_val (pe_callP T.ok_is_name (rm hr) (kp_of T.fd_is_name) rfl T.g_is_name passE (pa_cons (pv 1) pa_nil)))) (pw_or1 (pt_cmp (pc_dnotin (hu_of hr) (pv 1) (pe_fld (pv 0) rfl)) rfl)))) (pss_one (ps_raise rfl takesE (pmk_own PySem.F.excBase_ValueError T.x_NoWorker.1 T.g_NoWorker T.x_NoWorker.2.1 (raises_own T.x_NoWorker.2.2.1 T.x_NoWorker.2.2.2) rfl))) pss_nil)), ?_⟩
  refine ⟨_, rfl, name_ok hk fun H' s => ⟨_, rfl, ?_⟩⟩
  have hg' := hg.same s
  refine ⟨_, rfl, _, rfl, T.hr_staff hg' ?_⟩
  refine ⟨_, _, rfl, DGet.k (k := Sum.inr k) hg'.sd, ?_⟩
  rw [staff_get, hs]
  exact ⟨_, rfl, q H' s⟩
/-! ### what a job waits for -/
theorem fm_filter {α β : Type} (f : α → β) (p : α → Bool) (l : List α) : (l.filterMap fun n => if p n = true then some (f n) else none) = (l.filter p).map f := by
  induction l with
  | nil => rfl
  | cons a l ih =>
    rw [List.filterMap_cons, List.filter_cons]
    cases p a with
    | true => simp [ih]
    | false => simpa using ih
theorem lease_lk {H Hc : Hp} {G : HG} {o : HO} {l : LeaseG} (hg : HouseAt K H G) (s : Same (upd H G.cd o) Hc) (hl : l ∈ G.cnt) : LeaseAt K Hc l :=
  ⟨s _ _ (by rw [upd_ne fun e => hg.ap.bc G.cd (mi0 (i := 4)) l.a (mi3 hl) e.symm]; exact (hg.cnt l hl).ob)⟩
theorem job_mem {G : HG} {n : Nat} {g : JobG} (h : G.jobs[n]? = some g) : g ∈ G.jobs := List.mem_of_getElem? h
@[irreducible] def sp_House_missing (K : PySem.W.Frag) : Sp := fun vs H Q E => ∃ (G : HG) (g : JobG), vs = [.ref G.p, .ref g.a] ∧ HouseAt K H G ∧ JobAt K H g ∧ g.needs.length ≤ 6 ∧ (∀ n ∈ g.needs, n < G.jobs.length) ∧ ∀ H' t, Same H H' → H' t = some (.tup (vnats (G.er.missing g.toJobS))) → Q (.ref t) H'
theorem sc_House_missing : FnScope ["self", "job", "need"] ["self", "job"] (defScope s_House_missing) := ⟨rfl, rfl, rfl, by decide +kernel, rfl, by decide +kernel, by decide +kernel⟩
theorem Tp.ok_House_missing (T : Tp P w K mg base) : FnR P w K mg base (L2.CX P w) (0 + 1) (He.ma K (He.ga K "House") "missing") (sp_House_missing K) := by
  refine fnr (N := ["self", "job", "need"]) (ps := ["self", "job"]) (k := 0) T.fd_House_missing sc_House_missing (fun _ _ _ _ _ _ us hl => match us, hl with | [_, _], _ => rfl) (fun vs H Q E h => ?_) fun cdv A outer s H vs Q E hr h => ?_
  · unfold sp_House_missing at h
    obtain ⟨_, _, rfl, _⟩ := h
    rfl
  unfold sp_House_missing at h
  obtain ⟨G, g, rfl, hg, hj, hl, hn, q⟩ := h
  refine ⟨_, (pss_one (ps_ret (pe_callTy call_tuple_of rfl T.f_tuple bt_tuple (pa_cons (pe_lc (own := [("need", 2)]) rfl sc_House_missing.nd (pi_tup (pe_fld (pv 1) rfl)) (blkOk_by (own := [("need", 2)]) (N := ["self", "job", "need"]) (sc := defScope s_House_missing) (by decide +kernel)) (fun _ _ _ _ _ => (pg_name (i := 2) sc_House_missing.nd rfl (by first | exact .inl rfl | exact .inr rfl))) (fun _ _ _ _ _ => (pts_one (pt_cmpR op_ne (pe_fldK K rfl (pe_ix (ix_listK K rfl) (pe_fldK K rfl (pv 0) rfl) (pv 2) (fun _ _ => rfl)) rfl) (pe_gs rfl T.v_DONE) (nomark _)))) (fun _ _ _ _ _ => (pv 2))) pa_nil)))), ?_⟩
  refine ⟨_, rfl, T.jr_needed hj ⟨_, rfl, ⟨_, hj.ne⟩, lcT (xs := vnats g.needs) g.needs (fun n => V.int (n : Nat)) (fun n => if decide (G.er.ended n ≠ some tDone) = true then some (V.int (n : Nat)) else none) rfl hj.ne ?_ ?_ ?_⟩⟩
  · have h8 : (8 : Nat) < sizeLine := by decide
    omega
  · intro i n Hc R R0 en s k1 k2
    have hgc := hg.same s
    obtain ⟨j, ej⟩ : ∃ j, G.jobs[n]? = some j := ⟨_, List.getElem?_eq_getElem (hn n (List.mem_of_getElem? en))⟩
    have ee : G.er.ended n = j.ended := by rw [er_ended, ej]; rfl
    obtain ⟨z1, z2⟩ := optS_str j.ended tDone
    refine ⟨rfl, _, rfl, T.hr_jobs hgc ⟨_, rfl, _, _, _, _, rfl, rfl, SqL.of hgc.jl, atI_nat (refs_at ej), T.jr_ended (hgc.jobs j (job_mem ej)) ⟨z1, _, rfl, ?_⟩⟩⟩
    rw [z2]
    rw [ee] at k1 k2
    by_cases h : j.ended = some tDone
    · exact nF h (k2 _ (by simp [h]) Same.rfl')
    · exact nT h ⟨_, rfl, k1 _ _ (by simp [h]) Same.rfl'⟩
  · intro D H' hD s e
    rw [fm_filter] at e
    exact ⟨_, _, rfl, .inl ⟨.inl (.inl e), fun t ht => q _ t (Same.trans' s (same_new ht)) upd_same⟩⟩
@[irreducible] def sp_House_rank_of (K : PySem.W.Frag) : Sp := fun vs H Q E => ∃ (G : HG) (g : JobG), vs = [.ref G.p, .ref g.a] ∧ HouseAt K H G ∧ JobAt K H g ∧ G.age ≤ 1000000 ∧ Q (.int (G.er.rankOf g.toJobS)) H
theorem since_ok {H : Hp} {g : JobG} {Q : VK} {E : XK} (hj : JobAt K H g) (q : Q (.int g.since) H) : sp_Job_since K [.ref g.a] H Q E := by
  unfold sp_Job_since
  exact ⟨g, rfl, hj, q⟩
theorem sc_House_rank_of : FnScope ["self", "job"] ["self", "job"] (defScope s_House_rank_of) := ⟨rfl, rfl, rfl, by decide +kernel, rfl, by decide +kernel, by decide +kernel⟩
theorem Tp.ok_House_rank_of (T : Tp P w K mg base) : FnR P w K mg base (L2.CX P w) (1 + 1) (He.ma K (He.ga K "House") "rank_of") (sp_House_rank_of K) := by
  refine fnr (N := ["self", "job"]) (ps := ["self", "job"]) (k := 1) T.fd_House_rank_of sc_House_rank_of (fun _ _ _ _ _ _ us hl => match us, hl with | [_, _], _ => rfl) (fun vs H Q E h => ?_) fun cdv A outer s H vs Q E hr h => ?_
  · unfold sp_House_rank_of at h
    obtain ⟨_, _, rfl, _⟩ := h
    rfl
  unfold sp_House_rank_of at h
  obtain ⟨G, g, rfl, hg, hj, ha, q⟩ := h
  refine ⟨_, (pss_one (ps_ret (pe_ifExp (pt_cmpR op_gt (pe_fld (pv 0) rfl) pe_int (nomark _)) (pe_op op_add (pe_fld (pv 1) rfl) (pe_op op_fdiv (pe_op op_sub (pe_fld (pv 0) rfl) (pe_methR0 (pv 1) T.c_Job T.m_Job_since T.ok_Job_since (rm hr) passE)) (pe_fld (pv 0) rfl))) (pe_fld (pv 1) rfl)))), ?_⟩
  refine ⟨_, rfl, T.hr_age hg ⟨_, _, rfl, rfl, _, rfl, ?_⟩⟩
  unfold HouseS.rankOf at q
  by_cases h : 0 < G.age
  · rw [if_pos (show G.er.age > 0 from h)] at q
    refine dT h ⟨_, rfl, T.jr_rank hj ⟨_, rfl, T.hr_here hg ⟨_, rfl, jm hj (by kernel_rfl) (since_ok hj ⟨_, _, rfl, rfl, _, rfl, T.hr_age hg ⟨_, _, rfl, rfl, ⟨h, by omega⟩, ?_⟩⟩)⟩⟩⟩
    exact ⟨_, _, rfl, rfl, q⟩
  · rw [if_neg (show ¬ G.er.age > 0 from h)] at q
    exact dF h ⟨_, rfl, T.jr_rank hj q⟩
@[irreducible] def sp_House_hands_of (K : PySem.W.Frag) : Sp := fun vs H Q E => ∃ (G : HG) (x : Str), vs = [.ref G.p, .str x] ∧ HouseAt K H G ∧ G.cnt.length < sizeLine ∧ ∀ H', Same H H' → Q (.int (G.er.handsOf x : Int)) H'
theorem sc_House_hands_of : FnScope ["self", "worker", "lease"] ["self", "worker"] (defScope s_House_hands_of) := ⟨rfl, rfl, rfl, by decide +kernel, rfl, by decide +kernel, by decide +kernel⟩
theorem Tp.ok_House_hands_of (T : Tp P w K mg base) : FnR P w K mg base (L2.CX P w) (0 + 1) (He.ma K (He.ga K "House") "hands_of") (sp_House_hands_of K) := by
  refine fnr (N := ["self", "worker", "lease"]) (ps := ["self", "worker"]) (k := 0) T.fd_House_hands_of sc_House_hands_of (fun _ _ _ _ _ _ us hl => match us, hl with | [_, _], _ => rfl) (fun vs H Q E h => ?_) fun cdv A outer s H vs Q E hr h => ?_
  · unfold sp_House_hands_of at h
    obtain ⟨_, _, rfl, _⟩ := h
    rfl
  unfold sp_House_hands_of at h
  obtain ⟨G, x, rfl, hg, hl, q⟩ := h
  refine ⟨_, (pss_one (ps_ret (pe_callB call_len_seq rfl T.f_len bt_len (pa_cons (pe_lock (pe_lc (own := [("lease", 2)]) rfl sc_House_hands_of.nd (pi_values (pe_fld (pv 0) rfl)) (blkOk_by (own := [("lease", 2)]) (N := ["self", "worker", "lease"]) (sc := defScope s_House_hands_of) (by decide +kernel)) (fun _ _ _ _ _ => (pg_name (i := 2) sc_House_hands_of.nd rfl (by first | exact .inl rfl | exact .inr rfl))) (fun _ _ _ _ _ => (pts_one (pt_cmpR op_eq (pe_fldK K rfl (pv 2) rfl) (pv 1) (nomark _)))) (fun _ _ _ _ _ => (pv 2)))) pa_nil)))), ?_⟩
  refine lcV G.cnt (fun l => V.ref l.a) (fun l => if decide (l.worker = x) = true then some (V.ref l.a) else none) (by unfold cntD; rw [List.map_map]; rfl) hg.cd hl ?_ ?_ ?_
  · intro od R r
    exact ⟨_, rfl, _, _, _, _, _, rfl, (upd_ne (hg.ap.ne (i := 0) (j := 4) (by decide))).trans hg.ob, T.c_House, T.n_House_counting, house_counting G, r⟩
  · intro od i l Hc R R0 el s k1 k2
    have hl := lease_lk hg s (List.mem_of_getElem? el)
    refine ⟨rfl, _, rfl, T.er_worker hl ⟨_, rfl, rfl, _, rfl, ?_⟩⟩
    have e : decide (V.str l.worker = V.str x) = decide (l.worker = x) := by simp
    rw [e]
    by_cases h : l.worker = x
    · exact dT h ⟨_, rfl, k1 _ _ (by simp [h]) Same.rfl'⟩
    · exact dF h (k2 _ (by simp [h]) Same.rfl')
  · intro D H' _ s e
    refine ⟨_, _, rfl, .inl (SqL.of e), ?_⟩
    have z := q H' s
    rw [fm_filter, List.length_map]
    unfold HouseS.handsOf HG.er at z
    simp only [List.filter_map, List.length_map] at z
    exact z
end LH
end

section
set_option Elab.async false
set_option linter.all false
set_option maxRecDepth 100000
set_option maxHeartbeats 4000000
namespace LH
open PySem PySem.Spec PyProof.Rows L2 StX
variable {P : Program} {w : World} {K : PySem.W.Frag} {mg : Str → Option Value} {base : Heap}
theorem missing_ok {G : HG} {g : JobG} {H : Hp} {Q : VK} {E : XK} (hg : HouseAt K H G) (hj : JobAt K H g) (hl : g.needs.length ≤ 6) (hn : ∀ n ∈ g.needs, n < G.jobs.length) (q : ∀ H' t, Same H H' → H' t = some (.tup (vnats (G.er.missing g.toJobS))) → Q (.ref t) H') :
    sp_House_missing K [.ref G.p, .ref g.a] H Q E := by
  unfold sp_House_missing
  exact ⟨G, g, rfl, hg, hj, hl, hn, q⟩
theorem optS_non (e : Option Str) : decide (optS e = V.non) = decide (e = none) := by cases e <;> simp [optS]
theorem optN_non (e : Option Nat) : decide (optN e = V.non) = decide (e = none) := by cases e <;> simp [optN]
theorem dts_nats {H : Hp} : ∀ (l : List Nat), Dts K H (vnats l) (l.map N')
  | [] => .nil
  | n :: l => .cons (.int _) (dts_nats l)
theorem dt_nats {H : Hp} {t : Addr} {l : List Nat} (h : SqT K H t (vnats l)) : Dt K H (.ref t) (.tuple (l.map N')) := .tup h (dts_nats l)
theorem lay_nats : ∀ (l : List Nat), PyData.canLayAll0 (l.map N') = true
  | [] => rfl
  | n :: l => by
    rw [List.map_cons]
    unfold PyData.canLayAll0
    rw [lay_nats l]
    rfl
theorem deep_nats : ∀ (l : List Nat), PyData.depthAll (l.map N') ≤ 1
  | [] => by simp [PyData.depthAll]
  | n :: l => by
    have := deep_nats l
    simp only [List.map_cons, PyData.depthAll, PyData.depth]
    omega
theorem shaped_nats (l : List Nat) : SeqAt.shaped (.tuple (l.map N')) = true := by
  unfold SeqAt.shaped
  have h1 := deep_nats l
  have h2 : PyData.canLay0 (.tuple (l.map N')) = true := by unfold PyData.canLay0; exact lay_nats l
  rw [h2, Bool.true_and, decide_eq_true_eq]
  simp only [PyData.depth]
  omega
theorem eqv_nats (l : List Nat) : PyData.eqv (.tuple (l.map N')) (.tuple []) = decide (l = []) := by
  cases l with
  | nil => rfl
  | cons n l => rfl
@[irreducible] def sp_House_is_ready (K : PySem.W.Frag) : Sp := fun vs H Q E => ∃ (G : HG) (g : JobG), vs = [.ref G.p, .ref g.a] ∧ HouseAt K H G ∧ JobAt K H g ∧ g.needs.length ≤ 6 ∧ (∀ n ∈ g.needs, n < G.jobs.length) ∧ ∀ H', Same H H' → Q (.bl (G.er.isReady g.toJobS)) H'
theorem sc_House_is_ready : FnScope ["self", "job"] ["self", "job"] (defScope s_House_is_ready) := ⟨rfl, rfl, rfl, by decide +kernel, rfl, by decide +kernel, by decide +kernel⟩
theorem Tp.ok_House_is_ready (T : Tp P w K mg base) : FnR P w K mg base (L2.CX P w) (1 + 1) (He.ma K (He.ga K "House") "is_ready") (sp_House_is_ready K) := by
  refine fnr (N := ["self", "job"]) (ps := ["self", "job"]) (k := 1) T.fd_House_is_ready sc_House_is_ready (fun _ _ _ _ _ _ us hl => match us, hl with | [_, _], _ => rfl) (fun vs H Q E h => ?_) fun cdv A outer s H vs Q E hr h => ?_
  · unfold sp_House_is_ready at h
    obtain ⟨_, _, rfl, _⟩ := h
    rfl
  unfold sp_House_is_ready at h
  obtain ⟨G, g, rfl, hg, hj, hl, hn, q⟩ := h
  refine ⟨_, (pss_one (ps_ret (pe_and (pe_cmpR op_isN (pe_fld (pv 1) rfl) pe_non (nomark _)) (pe_and (pe_cmpR op_isN (pe_fld (pv 1) rfl) pe_non (nomark _)) (pe_and (pe_cmpR op_le (pe_fld (pv 1) rfl) (pe_fld (pv 0) rfl) (nomark _)) (pe_one (pe_cmpR (op_eqD hr.units) (pe_methR (pv 0) T.c_House T.m_House_missing T.ok_House_missing (rm hr) passE (pa_cons (pv 1) pa_nil)) (pe_tup pa_nil) (nomark _)))))))), ?_⟩
  refine ⟨_, rfl, T.jr_ended hj ⟨rfl, ?_⟩⟩
  rw [optS_non]
  unfold HouseS.isReady at q
  by_cases h1 : g.ended = none
  · rw [decide_eq_true h1] at q ⊢
    refine ⟨_, rfl, ?_⟩
    refine ⟨_, rfl, T.jr_held hj ⟨rfl, ?_⟩⟩
    rw [optN_non]
    by_cases h2 : g.held = none
    · rw [decide_eq_true h2] at q ⊢
      refine ⟨_, rfl, ?_⟩
      refine ⟨_, rfl, T.jr_until hj ⟨_, rfl, T.hr_here hg ⟨_, _, rfl, rfl, _, rfl, ?_⟩⟩⟩
      by_cases h3 : g.til ≤ G.here
      · rw [decide_eq_true (show g.til ≤ G.er.here from h3)] at q
        refine dT h3 ?_
        refine ⟨_, rfl, hm hg (by kernel_rfl) ⟨_, rfl, missing_ok hg hj hl hn fun H' t s e => ?_⟩⟩
        refine ⟨by show 0 ≤ sizeLine; decide, fun b hb => ?_⟩
        refine ⟨_, _, (dt_nats (SqT.of ((same_new hb) _ _ e))).dp, (Dt.tup (xs := []) (SqT.of upd_same) .nil).dp, shaped_nats _, by decide +kernel, ?_⟩
        have z := q _ (Same.trans' s (same_new (o := .tup []) hb))
        rw [Bool.true_and, Bool.true_and, Bool.true_and] at z
        rw [eqv_nats]
        exact z
      · rw [decide_eq_false (show ¬ g.til ≤ G.er.here from h3)] at q
        exact dF h3 (q H Same.rfl')
    · rw [decide_eq_false h2] at q ⊢
      exact ⟨_, rfl, q H Same.rfl'⟩
  · rw [decide_eq_false h1] at q ⊢
    exact ⟨_, rfl, q H Same.rfl'⟩
@[irreducible] def sp_House_turn_of (K : PySem.W.Frag) : Sp := fun vs H Q E => ∃ (G : HG) (n : Nat) (g : JobG), vs = [.ref G.p, .int (n : Int)] ∧ HouseAt K H G ∧ G.jobs[n]? = some g ∧ G.age ≤ 1000000 ∧ ∀ t, H t = none → Q (.ref t) (upd H t (.tup [.int (0 - G.er.rankOf g.toJobS), .int g.since, .int (n : Int)]))
theorem rank_ok {G : HG} {g : JobG} {H : Hp} {Q : VK} {E : XK} (hg : HouseAt K H G) (hj : JobAt K H g) (ha : G.age ≤ 1000000) (q : Q (.int (G.er.rankOf g.toJobS)) H) : sp_House_rank_of K [.ref G.p, .ref g.a] H Q E := by
  unfold sp_House_rank_of
  exact ⟨G, g, rfl, hg, hj, ha, q⟩
theorem sc_House_turn_of : FnScope ["self", "number", "job"] ["self", "number"] (defScope s_House_turn_of) := ⟨rfl, rfl, rfl, by decide +kernel, rfl, by decide +kernel, by decide +kernel⟩
theorem Tp.ok_House_turn_of (T : Tp P w K mg base) : FnR P w K mg base (L2.CX P w) (2 + 1) (He.ma K (He.ga K "House") "turn_of") (sp_House_turn_of K) := by
  refine fnr (N := ["self", "number", "job"]) (ps := ["self", "number"]) (k := 2) T.fd_House_turn_of sc_House_turn_of (fun _ _ _ _ _ _ us hl => match us, hl with | [_, _], _ => rfl) (fun vs H Q E h => ?_) fun cdv A outer s H vs Q E hr h => ?_
  · unfold sp_House_turn_of at h
    obtain ⟨_, _, _, rfl, _⟩ := h
    rfl
  unfold sp_House_turn_of at h
  obtain ⟨G, n, g, rfl, hg, hn, ha, q⟩ := h
  refine ⟨_, (pss_cons (ps_set (i := 2) sc_House_turn_of.nd rfl (by first | exact .inl rfl | exact .inr rfl) (pe_ix ix_list (pe_fld (pv 0) rfl) (pv 1) (fun _ _ => rfl)))
      (pss_one (ps_ret (pe_tup (pa_cons (pe_op op_sub pe_int (pe_methR (pv 0) T.c_House T.m_House_rank_of T.ok_House_rank_of (rm hr) passE (pa_cons (pv 2) pa_nil))) (pa_cons (pe_methR0 (pv 2) T.c_Job T.m_Job_since T.ok_Job_since (rm hr) passE) (pa_cons (pv 1) pa_nil))))))), ?_⟩
  have hj := hg.jobs g (job_mem hn)
  refine ⟨_, rfl, T.hr_jobs hg ⟨_, rfl, _, _, _, _, rfl, rfl, SqL.of hg.jl, atI_nat (refs_at hn), ?_⟩⟩
  refine ⟨_, rfl, hm hg (by kernel_rfl) ⟨_, rfl, rank_ok hg hj ha ⟨_, _, rfl, rfl, _, rfl, jm hj (by kernel_rfl) (since_ok hj ⟨_, rfl, by show 3 ≤ sizeLine; decide, fun p hp => q p hp⟩)⟩⟩⟩
@[irreducible] def sp_House_next_ticks (K : PySem.W.Frag) : Sp := fun vs H Q E => ∃ G : HG, vs = [.ref G.p] ∧ HouseAt K H G ∧ G.cnt.length + G.clks.length < sizeLine ∧ ∀ H' t, H t = none → Same H H' → H' t = some (.lst (vints G.er.nextTicks)) → Q (.ref t) H'
theorem none_same {H H' : Hp} {p : Addr} (s : Same H H') (h : H' p = none) : H p = none := by
  cases e : H p with
  | none => rfl
  | some o => rw [s _ _ e] at h; cases h
theorem vints_app (a b : List Int) : vints a ++ vints b = vints (a ++ b) := by simp [vints]
theorem vints_map {α : Type} (f : α → Int) (l : List α) : l.map (fun a => V.int (f a)) = vints (l.map f) := by rw [vints, List.map_map]; rfl
theorem sc_House_next_ticks : FnScope ["self", "clocks", "clock", "lease"] ["self"] (defScope s_House_next_ticks) := ⟨rfl, rfl, rfl, by decide +kernel, rfl, by decide +kernel, by decide +kernel⟩
theorem Tp.ok_House_next_ticks (T : Tp P w K mg base) : FnR P w K mg base (L2.CX P w) (0 + 1) (He.ma K (He.ga K "House") "next_ticks") (sp_House_next_ticks K) := by
  refine fnr (N := ["self", "clocks", "clock", "lease"]) (ps := ["self"]) (k := 0) T.fd_House_next_ticks sc_House_next_ticks (fun _ _ _ _ _ _ us hl => match us, hl with | [_], _ => rfl) (fun vs H Q E h => ?_) fun cdv A outer s H vs Q E hr h => ?_
  · unfold sp_House_next_ticks at h
    obtain ⟨_, rfl, _⟩ := h
    rfl
  unfold sp_House_next_ticks at h
  obtain ⟨G, rfl, hg, hl, q⟩ := h
  refine ⟨_, (pss_cons (ps_setLc (i := 1) (own := [("clock", 2)]) rfl sc_House_next_ticks.nd rfl rfl rfl (pi_list (pe_fld (pv 0) rfl)) (blkOk_by (own := [("clock", 2)]) (N := ["self", "clocks", "clock", "lease"]) (sc := defScope s_House_next_ticks) (by decide +kernel)) (fun _ _ _ _ _ => (pg_name (i := 2) sc_House_next_ticks.nd rfl (by first | exact .inl rfl | exact .inr rfl))) (fun _ _ _ _ _ => (pts_one (pt_cmpR op_gt (pe_fldK K rfl (pv 2) rfl) pe_int (nomark _)))) (fun _ _ _ _ _ => (pe_fldK K rfl (pv 2) rfl)))
      (pss_one (ps_ret (pe_op op_cat (pe_lock (pe_lc (own := [("lease", 3)]) rfl sc_House_next_ticks.nd (pi_values (pe_fld (pv 0) rfl)) (blkOk_by (own := [("lease", 3)]) (N := ["self", "clocks", "clock", "lease"]) (sc := defScope s_House_next_ticks) (by decide +kernel)) (fun _ _ _ _ _ => (pg_name (i := 3) sc_House_next_ticks.nd rfl (by first | exact .inl rfl | exact .inr rfl))) (fun _ _ _ _ _ => pts_nil) (fun _ _ _ _ _ => (pe_fldK K rfl (pv 3) rfl)))) (pv 1))))), ?_⟩
  refine ⟨_, rfl, T.hr_clocks hg ⟨_, rfl, ⟨_, SqL.of hg.cl⟩, lcL (xs := refs (·.a) G.clks) G.clks (fun c => V.ref c.a) (fun c => if decide (c.left > 0) = true then some (V.int c.coming) else none) rfl (SqL.of hg.cl) (by omega) ?_ ?_⟩⟩
  · intro i c Hc R R0 ec s k1 k2
    have hgc := hg.same s
    have hc := hgc.clks c (List.mem_of_getElem? ec)
    refine ⟨rfl, _, rfl, T.cr_left hc ⟨_, _, rfl, rfl, _, rfl, ?_⟩⟩
    by_cases h : c.left > 0
    · exact dT h ⟨_, rfl, T.cr_coming hc (k1 _ _ (by simp [h]) Same.rfl')⟩
    · exact dF h (k2 _ (by simp [h]) Same.rfl')
  · intro D1 H1 hD s1 e1
    rw [fm_filter, vints_map] at e1
    have hg1 := hg.same s1
    refine gnI (rtI (opI (lcV G.cnt (fun l => V.ref l.a) (fun l => some (V.int l.til)) (by unfold cntD; rw [List.map_map]; rfl) hg1.cd (by omega) ?_ ?_ ?_)))
    · intro od R r
      exact ⟨_, rfl, _, _, _, _, _, rfl, (upd_ne (hg1.ap.ne (i := 0) (j := 4) (by decide))).trans hg1.ob, T.c_House, T.n_House_counting, house_counting G, r⟩
    · intro od i l Hc R R0 el s k1 k2
      exact ⟨rfl, ⟨_, rfl, T.er_until (lease_lk hg1 s (List.mem_of_getElem? el)) (k1 _ _ rfl Same.rfl')⟩⟩
    · intro D2 H2 hD2 s2 e2
      rw [List.filterMap_eq_map', vints_map] at e2
      refine ⟨_, rfl, _, _, _, _, rfl, rfl, e2, s2 _ _ e1, ?_, fun p hp => q _ p ?_ (Same.trans' (Same.trans' s1 s2) (same_new hp)) ?_⟩
      · have h3 := List.length_filter_le (fun c : ClockG => decide (c.left > 0)) G.clks
        simp only [vints, List.length_map]
        omega
      · exact none_same (Same.trans' s1 s2) hp
      · rw [upd_same, vints_app]
        congr 3
        unfold HouseS.nextTicks HG.er
        simp only [List.map_map, List.filter_map]
        rfl
end LH
end

section
set_option Elab.async false
set_option linter.all false
set_option maxRecDepth 100000
set_option maxHeartbeats 4000000
namespace LH
open PySem PySem.Spec PyProof.Rows L2 StX
variable {P : Program} {w : World} {K : PySem.W.Frag} {mg : Str → Option Value} {base : Heap}
theorem pe_dead {X : Cx} {e : Expr} : PE X e (fun _ _ _ => False) := ⟨fun _ _ _ _ _ _ h => h.elim⟩
def Deep (js : List JobS) : Nat → List Nat → Prop
  | 0, ns => ns = []
  | d + 1, ns => ∀ n ∈ ns, ∃ o, js[n]? = some o ∧ Deep js d o.needs
def lostP (js : List JobS) (d : Nat) (n : Nat) : Bool := match js[n]? with
  | none => false
  | some o => decide (o.ended = some tDead) || decide (o.ended = some tDropped) || (decide (o.ended = none) && (HouseS.lostIn js d o.needs).isSome)
theorem lostIn_succ (js : List JobS) (d : Nat) (ns : List Nat) : HouseS.lostIn js (d + 1) ns = ns.find? (lostP js d) := rfl
@[irreducible] def sp_House_lost_by (d : Nat) (K : PySem.W.Frag) : Sp := fun vs H Q E => ∃ (G : HG) (g : JobG), vs = [.ref G.p, .ref g.a] ∧ HouseAt K H G ∧ JobAt K H g ∧ Deep G.er.jobs d g.needs ∧ ∀ H', Same H H' → Q (optN (HouseS.lostIn G.er.jobs d g.needs)) H'
theorem find_take {p : Nat → Bool} {ns : List Nat} {i n : Nat} (h : ns[i]? = some n) (hp : p n = true) (h0 : (ns.take i).find? p = none) : ns.find? p = some n := by
  have e : ns = ns.take i ++ n :: ns.drop (i + 1) := by
    obtain ⟨hi, he⟩ := List.getElem?_eq_some_iff.mp h
    rw [← he, ← List.drop_eq_getElem_cons hi, List.take_append_drop]
  rw [e, List.find?_append, h0, Option.none_or, List.find?_cons, hp]
theorem find_step {p : Nat → Bool} {ns : List Nat} {i n : Nat} (h : ns[i]? = some n) (hp : p n = false) (h0 : (ns.take i).find? p = none) : (ns.take (i + 1)).find? p = none := by
  rw [List.take_succ, h, List.find?_append, h0, Option.none_or]
  simp [hp]
theorem optN_notnon (e : Option Nat) : (!decide (optN e = V.non)) = e.isSome := by cases e <;> simp [optN]
theorem optS_flat (e : Option Str) : flatV (optS e) = true := by cases e <;> rfl
theorem optS_in (e : Option Str) : inV (optS e) [.str tDead, .str tDropped] = (decide (e = some tDead) || decide (e = some tDropped)) := by
  cases e with
  | none => simp [inV, optS, eqV]
  | some x =>
    simp only [inV, optS, eqV, List.any_cons, List.any_nil, Bool.or_false, Option.some.injEq]
    rw [Bool.eq_iff_iff]
    simp only [Bool.or_eq_true, beq_iff_eq, decide_eq_true_eq]
    constructor <;> rintro (h | h) <;> simp [h]
theorem lost_ok {d : Nat} {G : HG} {g : JobG} {H : Hp} {Q : VK} {E : XK} (hg : HouseAt K H G) (hj : JobAt K H g) (hd : Deep G.er.jobs d g.needs) (q : ∀ H', Same H H' → Q (optN (HouseS.lostIn G.er.jobs d g.needs)) H') : sp_House_lost_by d K [.ref G.p, .ref g.a] H Q E := by
  unfold sp_House_lost_by
  exact ⟨G, g, rfl, hg, hj, hd, q⟩
end LH
end

section
set_option Elab.async false
set_option linter.all false
set_option maxRecDepth 100000
set_option maxHeartbeats 4000000
namespace LH
open PySem PySem.Spec PyProof.Rows L2 StX
variable {P : Program} {w : World} {K : PySem.W.Frag} {mg : Str → Option Value} {base : Heap}
/-- the house stands anew, its places and its jobs' places as they were; the rest of the heap too -/
structure Stp (K : PySem.W.Frag) (H : Hp) (G : HG) (H' : Hp) (G' : HG) : Prop where
  at_ : HouseAt K H' G'
  fr : FrH (TT K) H G H' G'
  base : pa0 G' = pa0 G
  jobs : ∀ (i : Nat) (g : JobG), G.jobs[i]? = some g → ∃ g' : JobG, G'.jobs[i]? = some g' ∧ g'.a = g.a
theorem Stp.p {H H' : Hp} {G G' : HG} (s : Stp K H G H' G') : G'.p = G.p := by
  have := s.base
  simp only [pa0, List.cons.injEq] at this
  exact this.1
theorem Stp.lim {H H' : Hp} {G G' : HG} (s : Stp K H G H' G') : G'.lim = G.lim := by
  have := s.base
  simp only [pa0, List.cons.injEq] at this
  exact this.2.1
theorem Stp.trans {H H1 H2 : Hp} {G G1 G2 : HG} (a : Stp K H G H1 G1) (b : Stp K H1 G1 H2 G2) : Stp K H G H2 G2 :=
  ⟨b.at_, a.fr.trans b.fr, b.base.trans a.base, fun i g h => by
    obtain ⟨g1, e1, a1⟩ := a.jobs i g h
    obtain ⟨g2, e2, a2⟩ := b.jobs i g1 e1
    exact ⟨g2, e2, a2.trans a1⟩⟩
theorem Stp.same {H H' : Hp} {G : HG} (hg : HouseAt K H G) (s : Same H H') : Stp K H G H' G := ⟨hg.same s, .same s fun b hb => .inl hb, rfl, fun i g h => ⟨g, h, rfl⟩⟩
theorem Stp.refl {H : Hp} {G : HG} (hg : HouseAt K H G) : Stp K H G H G := .same hg Same.rfl'
/-- one row by its kind, as a place or by a map -/
theorem set_kind {l : List RowG} {i : Nat} {r r' : RowG} {k : Str} {f : RowS → RowS} (nd : (l.map (·.kind)).Nodup) (hi : l[i]? = some r) (hk : r.kind = k) (e : r'.toRowS = f r.toRowS) :
    (l.set i r').map (·.toRowS) = (l.map (·.toRowS)).map fun r => if r.kind = k then f r else r := by
  apply List.ext_getElem?
  intro j
  rw [List.map_map, List.getElem?_map, List.getElem?_map, List.getElem?_set]
  have hlt := (List.getElem?_eq_some_iff.mp hi).1
  by_cases h : i = j
  · subst h
    rw [if_pos rfl, if_pos hlt, hi]
    simp [hk, e]
  · rw [if_neg h]
    cases ej : l[j]? with
    | none => rfl
    | some q =>
      have hne : q.kind ≠ k := fun z => by
        have h1 : (l.map (·.kind))[i]? = some k := by rw [List.getElem?_map, hi]; simp [hk]
        have h2 : (l.map (·.kind))[j]? = some k := by rw [List.getElem?_map, ej]; simp [z]
        obtain ⟨a1, a2⟩ := List.getElem?_eq_some_iff.mp h1
        obtain ⟨b1, b2⟩ := List.getElem?_eq_some_iff.mp h2
        exact h ((List.getElem_inj nd).mp (a2.trans b2.symm))
      simp [hne]
theorem er_kinds (G : HG) : G.er.rows.map (·.kind) = G.rows.map (·.kind) := by
  unfold HG.er
  rw [List.map_map]
  rfl
/-- a row's ticks are trimmed -/
theorem stp_trim {H H1 : Hp} {G : HG} {i : Nat} {r : RowG} {D : Addr} {t : List Int} (hg : HouseAt K H G) (hi : G.rows[i]? = some r) (s : Same H H1) (hD : H D = none) (eD : H1 D = some (.lst (vints t))) :
    Stp K H G (upd H1 r.a (.lst (rowL { r with tk := D, ticks := t }))) { G with rows := G.rows.set i { r with tk := D, ticks := t } } := by
  have hg1 := hg.same s
  have hn : D ∉ adr G := hg.outN hD
  have hh := hg1.newT hi (r' := { r with tk := D, ticks := t }) rfl eD hn
  have hm : r ∈ G.rows := List.mem_of_getElem? hi
  obtain ⟨A, B, e1, e2⟩ := pa1_new (r' := { r with tk := D, ticks := t }) hi rfl
  have hs : ∀ b ∈ adr { G with rows := G.rows.set i { r with tk := D, ticks := t } }, b ∈ adr G ∨ b = D := by
    intro b hb
    unfold adr at hb ⊢
    rcases List.mem_append.mp hb with h | h
    · exact .inl (List.mem_append_left _ h)
    · rcases List.mem_append.mp h with h | h
      · rw [show pa1 (G.rows.set i { r with tk := D, ticks := t }) = A ++ D :: B from e2] at h
        rcases List.mem_append.mp h with h | h
        · exact .inl (List.mem_append_right _ (List.mem_append_left _ (by rw [e1]; exact List.mem_append_left _ h)))
        · rcases List.mem_cons.mp h with h | h
          · exact .inr h
          · exact .inl (List.mem_append_right _ (List.mem_append_left _ (by rw [e1]; exact List.mem_append_right _ (List.mem_cons_of_mem _ h))))
      · exact .inl (List.mem_append_right _ (List.mem_append_right _ h))
  refine ⟨hh, ⟨fun b o e nt na => ?_, fun tb => ?_⟩, rfl, fun j g h => ⟨g, h, rfl⟩⟩
  · have hb : b ≠ r.a := fun z => na (by rw [z]; exact b1 (mi1 hm))
    refine ⟨by rw [upd_ne hb]; exact s _ _ e, fun h => ?_⟩
    rcases hs b h with h | h
    · exact na h
    · rw [h, hD] at e
      cases e
  · exact tabs_upd (hg1.rows r hm).ob trivial ((FrH.same (T := TT K) (G := G) (G' := G) s fun b hb => .inl hb).tabs tb)
theorem row_dget {H : Hp} {G : HG} {k : Str} {g : RowG} (hg : HouseAt K H G) (e1 : G.rows.find? (fun r => decide (r.kind = k)) = some g) : DGet H G.rd (.str k) (some (.ref g.a)) := by
  have z := DGet.k (k := Sum.inr k) hg.rd
  rw [row_get, e1] at z
  exact z
@[irreducible] def sp_Limits_at_once (K : PySem.W.Frag) : Sp := fun vs H Q E => ∃ (G : HG) (k : Str) (r : RowS), vs = [.ref G.lim, .str k] ∧ HouseAt K H G ∧ G.er.row k = some r ∧ Q (.int r.cnt) H
@[irreducible] def sp_Limits_has_room (K : PySem.W.Frag) : Sp := fun vs H Q E => ∃ (G : HG) (k : Str) (r : RowS), vs = [.ref G.lim, .str k] ∧ HouseAt K H G ∧ G.er.row k = some r ∧ Q (.bl (decide (r.cnt < r.most))) H
theorem sc_Limits_has_room : FnScope ["self", "kind"] ["self", "kind"] (defScope s_Limits_has_room) := ⟨rfl, rfl, rfl, by decide +kernel, rfl, by decide +kernel, by decide +kernel⟩
theorem Tp.ok_Limits_has_room (T : Tp P w K mg base) : FnR P w K mg base (L2.CX P w) (0 + 1) (He.ma K (He.ga K "Limits") "has_room") (sp_Limits_has_room K) := by
  refine fnr (N := ["self", "kind"]) (ps := ["self", "kind"]) (k := 0) T.fd_Limits_has_room sc_Limits_has_room (fun _ _ _ _ _ _ us hl => match us, hl with | [_, _], _ => rfl) (fun vs H Q E h => ?_) fun cdv A outer s H vs Q E hr h => ?_
  · unfold sp_Limits_has_room at h
    obtain ⟨_, _, _, rfl, _⟩ := h
    rfl
  unfold sp_Limits_has_room at h
  obtain ⟨G, k, r, rfl, hg, hr', q⟩ := h
  refine ⟨_, (pss_one (ps_ret (pe_cmpR op_lt (pe_ix ix_list (pe_dget (hu_of hr) (pe_fld (pv 0) rfl) (pv 1) (fun _ _ => rfl)) pe_int (fun _ _ => rfl)) (pe_ix ix_list (pe_dget (hu_of hr) (pe_fld (pv 0) rfl) (pv 1) (fun _ _ => rfl)) pe_int (fun _ _ => rfl)) (nomark _)))), ?_⟩
  obtain ⟨i, g, e1, e2, rfl, e4⟩ := row_some hr'
  have hrow := hg.rows g (List.mem_of_getElem? e2)
  exact ⟨_, rfl, T.mr_rows hg ⟨_, rfl, _, _, rfl, row_dget hg e1, _, _, _, _, rfl, rfl, SqL.of hrow.ob, rfl, _, rfl, T.mr_rows hg ⟨_, rfl, _, _, rfl, row_dget hg e1, _, _, _, _, rfl, rfl, SqL.of hrow.ob, rfl, _, _, rfl, rfl, q⟩⟩⟩
@[irreducible] def sp_Limits_lately (K : PySem.W.Frag) : Sp := fun vs H Q E => ∃ (G : HG) (k : Str) (r : RowS), vs = [.ref G.lim, .str k, .int G.here] ∧ HouseAt K H G ∧ (G.er.rows.map (·.kind)).Nodup ∧ G.er.row k = some r ∧ r.ticks.length < sizeLine ∧
  ∀ H' G', Stp K H G H' G' → G'.er = (G.er.lately k).2 → Q (.int (G.er.lately k).1) H'
theorem sc_Limits_lately : FnScope ["self", "kind", "tick", "row", "one"] ["self", "kind", "tick"] (defScope s_Limits_lately) := ⟨rfl, rfl, rfl, by decide +kernel, rfl, by decide +kernel, by decide +kernel⟩
theorem Tp.ok_Limits_lately (T : Tp P w K mg base) : FnR P w K mg base (L2.CX P w) (0 + 1) (He.ma K (He.ga K "Limits") "lately") (sp_Limits_lately K) := by
  refine fnr (N := ["self", "kind", "tick", "row", "one"]) (ps := ["self", "kind", "tick"]) (k := 0) T.fd_Limits_lately sc_Limits_lately (fun _ _ _ _ _ _ us hl => match us, hl with | [_, _, _], _ => rfl) (fun vs H Q E h => ?_) fun cdv A outer s H vs Q E hr h => ?_
  · unfold sp_Limits_lately at h
    obtain ⟨_, _, _, rfl, _⟩ := h
    rfl
  unfold sp_Limits_lately at h
  obtain ⟨G, k, r, rfl, hg, nd, hr', hz, q⟩ := h
  refine ⟨_, (pss_cons (ps_set (i := 3) sc_Limits_lately.nd rfl (by first | exact .inl rfl | exact .inr rfl) (pe_dget (hu_of hr) (pe_fld (pv 0) rfl) (pv 1) (fun _ _ => rfl)))
      (pss_cons (ps_asg (pe_lc (own := [("one", 4)]) rfl sc_Limits_lately.nd (pi_list (pe_ix ix_list (pv 3) pe_int (fun _ _ => rfl))) (blkOk_by (own := [("one", 4)]) (N := ["self", "kind", "tick", "row", "one"]) (sc := defScope s_Limits_lately) (by decide +kernel)) (fun _ _ _ _ _ => (pg_name (i := 4) sc_Limits_lately.nd rfl (by first | exact .inl rfl | exact .inr rfl))) (fun _ _ _ _ _ => (pts_one (pt_cmpR op_gt (pv 4) (pe_op op_sub (pv 2) (pe_gi rfl T.v_WINDOW)) (nomark _)))) (fun _ _ _ _ _ => (pv 4))) (pg_sub (pv 3) pe_int set_list))
      (pss_one (ps_ret (pe_callB call_len rfl T.f_len bt_len (pa_cons (pe_ix ix_list (pv 3) pe_int (fun _ _ => rfl)) pa_nil)))))), ?_⟩
  obtain ⟨i, g, e1, e2, rfl, e4⟩ := row_some hr'
  have hrow := hg.rows g (List.mem_of_getElem? e2)
  refine ⟨_, rfl, T.mr_rows hg ⟨_, rfl, _, _, rfl, row_dget hg e1, ?_⟩⟩
  refine ⟨_, rfl, _, _, _, _, rfl, rfl, SqL.of hrow.ob, rfl, _, rfl, ⟨_, SqL.of hrow.tk⟩, lcL (xs := vints g.ticks) g.ticks V.int (fun o => if decide (o > G.here - 10) = true then some (V.int o) else none) rfl (SqL.of hrow.tk) hz ?_ ?_⟩
  · intro j o Hc R R0 eo s k1 k2
    refine ⟨rfl, _, rfl, _, rfl, _, _, rfl, rfl, _, _, rfl, rfl, _, rfl, ?_⟩
    by_cases h : o > G.here - 10
    · exact dT h ⟨_, rfl, k1 _ _ (by simp [h]) Same.rfl'⟩
    · exact dF h (k2 _ (by simp [h]) Same.rfl')
  · intro D H1 hD s e
    rw [fm_filter] at e
    have e : H1 D = some (.lst (vints (g.ticks.filter fun o => decide (o > G.here - 10)))) := e
    have hst := stp_trim hg e2 s hD e
    refine ⟨_, rfl, _, _, _, _, rfl, rfl, s _ _ hrow.ob, rfl, ?_⟩
    have hne : D ≠ g.a := fun z => by
      rw [z, hrow.ob] at hD
      cases hD
    refine ⟨_, rfl, _, _, _, _, rfl, rfl, SqL.of upd_same, rfl, _, _, rfl, .inl ⟨_, SqL.of ((upd_ne hne).trans e), rfl⟩, ?_⟩
    have z := q _ _ hst ?_
    · unfold HouseS.lately at z
      rw [hr'] at z
      simp only [vints, List.length_map]
      exact z
    · unfold HouseS.lately
      rw [hr']
      show HG.er _ = G.er.rowUp k fun r => r.trim G.here
      have z2 := set_kind (f := fun r => r.trim G.here) (r' := { g with tk := D, ticks := g.ticks.filter fun o => decide (o > G.here - 10) }) (k := k) (by rw [← er_kinds]; exact nd) e2 e4 rfl
      unfold HG.er HouseS.rowUp
      simp only
      rw [z2]
end LH
end

section
set_option Elab.async false
set_option linter.all false
set_option maxRecDepth 100000
set_option maxHeartbeats 4000000
namespace LH
open PySem PySem.Spec PyProof.Rows L2 StX
variable {P : Program} {w : World} {K : PySem.W.Frag} {mg : Str → Option Value} {base : Heap}
theorem lately_ok {G : HG} {k : Str} {r : RowS} {H : Hp} {Q : VK} {E : XK} (hg : HouseAt K H G) (nd : (G.er.rows.map (·.kind)).Nodup) (hr' : G.er.row k = some r) (hz : r.ticks.length < sizeLine)
    (q : ∀ H' G', Stp K H G H' G' → G'.er = (G.er.lately k).2 → Q (.int (G.er.lately k).1) H') : sp_Limits_lately K [.ref G.lim, .str k, .int G.here] H Q E := by
  unfold sp_Limits_lately
  exact ⟨G, k, r, rfl, hg, nd, hr', hz, q⟩
theorem room_ok {G : HG} {k : Str} {r : RowS} {H : Hp} {Q : VK} {E : XK} (hg : HouseAt K H G) (hr' : G.er.row k = some r) (q : Q (.bl (decide (r.cnt < r.most))) H) : sp_Limits_has_room K [.ref G.lim, .str k] H Q E := by
  unfold sp_Limits_has_room
  exact ⟨G, k, r, rfl, hg, hr', q⟩
theorem jkind_ok {g : JobG} {H : Hp} {Q : VK} {E : XK} (hj : JobAt K H g) (hn : g.steps ≠ []) (q : Q (.str g.kind) H) : sp_Job_kind K [.ref g.a] H Q E := by
  unfold sp_Job_kind
  exact ⟨g, rfl, hj, hn, q⟩
theorem hands_ok {G : HG} {x : Str} {H : Hp} {Q : VK} {E : XK} (hg : HouseAt K H G) (hl : G.cnt.length < sizeLine) (q : ∀ H', Same H H' → Q (.int (G.er.handsOf x : Int)) H') : sp_House_hands_of K [.ref G.p, .str x] H Q E := by
  unfold sp_House_hands_of
  exact ⟨G, x, rfl, hg, hl, q⟩
theorem row_up (h : HouseS) (k j : Str) (f : RowS → RowS) (hk : ∀ r, (f r).kind = r.kind) : (h.rowUp k f).row j = if j = k then (h.row j).map f else h.row j := by
  unfold HouseS.row HouseS.rowUp
  rw [find_map]
  have e : (fun a : RowS => decide ((if a.kind = k then f a else a).kind = j)) = fun r => decide (r.kind = j) := by
    funext r
    split <;> simp [hk]
  rw [e]
  cases h1 : h.rows.find? fun r => decide (r.kind = j) with
  | none => split <;> rfl
  | some r =>
    have h2 : r.kind = j := by simpa using List.find?_some h1
    by_cases h3 : j = k
    · rw [if_pos h3, Option.map_some, if_pos (h2.trans h3), Option.map_some]
    · rw [if_neg h3, Option.map_some, if_neg (fun z => h3 (h2.symm.trans z))]
theorem lately_row {h : HouseS} {k : Str} {r : RowS} (hr' : h.row k = some r) : (h.lately k).2.row k = some (r.trim h.here) := by
  unfold HouseS.lately
  rw [hr']
  show (h.rowUp k _).row k = _
  rw [row_up _ _ _ (fun r => r.trim h.here) fun _ => rfl, if_pos rfl, hr']
  rfl
@[irreducible] def sp_Limits_has_rate (K : PySem.W.Frag) : Sp := fun vs H Q E => ∃ (G : HG) (k : Str) (r : RowS), vs = [.ref G.lim, .str k, .int G.here] ∧ HouseAt K H G ∧ (G.er.rows.map (·.kind)).Nodup ∧ G.er.row k = some r ∧ r.ticks.length < sizeLine ∧
  ∀ H' G', Stp K H G H' G' → G'.er = (G.er.lately k).2 → Q (.bl (decide ((G.er.lately k).1 < r.rate))) H'
theorem sc_Limits_has_rate : FnScope ["self", "kind", "tick"] ["self", "kind", "tick"] (defScope s_Limits_has_rate) := ⟨rfl, rfl, rfl, by decide +kernel, rfl, by decide +kernel, by decide +kernel⟩
theorem Tp.ok_Limits_has_rate (T : Tp P w K mg base) : FnR P w K mg base (L2.CX P w) (1 + 1) (He.ma K (He.ga K "Limits") "has_rate") (sp_Limits_has_rate K) := by
  refine fnr (N := ["self", "kind", "tick"]) (ps := ["self", "kind", "tick"]) (k := 1) T.fd_Limits_has_rate sc_Limits_has_rate (fun _ _ _ _ _ _ us hl => match us, hl with | [_, _, _], _ => rfl) (fun vs H Q E h => ?_) fun cdv A outer s H vs Q E hr h => ?_
  · unfold sp_Limits_has_rate at h
    obtain ⟨_, _, _, rfl, _⟩ := h
    rfl
  unfold sp_Limits_has_rate at h
  obtain ⟨G, k, r, rfl, hg, nd, hr', hz, q⟩ := h
  refine ⟨_, (pss_one (ps_ret (pe_cmpR op_lt (pe_methR (pv 0) T.c_Limits T.m_Limits_lately T.ok_Limits_lately (rm hr) passE (pa_cons (pv 1) (pa_cons (pv 2) pa_nil))) (pe_ix ix_list (pe_dget (hu_of hr) (pe_fld (pv 0) rfl) (pv 1) (fun _ _ => rfl)) pe_int (fun _ _ => rfl)) (nomark _)))), ?_⟩
  refine ⟨_, rfl, mm hg (by kernel_rfl) ⟨_, rfl, _, rfl, lately_ok hg nd hr' hz fun H' G' st e => ?_⟩⟩
  have hr2 : G'.er.row k = some (r.trim G.here) := by rw [e]; exact lately_row hr'
  obtain ⟨i, g, e1, e2, e3, e4⟩ := row_some hr2
  have hrow := st.at_.rows g (List.mem_of_getElem? e2)
  have hrate : g.rate = r.rate := by
    have := congrArg RowS.rate e3
    exact this
  rw [← st.lim]
  refine ⟨_, rfl, T.mr_rows st.at_ ⟨_, rfl, _, _, rfl, row_dget st.at_ e1, _, _, _, _, rfl, rfl, SqL.of hrow.ob, rfl, _, _, rfl, rfl, ?_⟩⟩
  rw [hrate]
  exact q H' G' st e
theorem rate_ok {G : HG} {k : Str} {r : RowS} {H : Hp} {Q : VK} {E : XK} (hg : HouseAt K H G) (nd : (G.er.rows.map (·.kind)).Nodup) (hr' : G.er.row k = some r) (hz : r.ticks.length < sizeLine)
    (q : ∀ H' G', Stp K H G H' G' → G'.er = (G.er.lately k).2 → Q (.bl (decide ((G.er.lately k).1 < r.rate))) H') : sp_Limits_has_rate K [.ref G.lim, .str k, .int G.here] H Q E := by
  unfold sp_Limits_has_rate
  exact ⟨G, k, r, rfl, hg, nd, hr', hz, q⟩
theorem staff_dget {H : Hp} {G : HG} {x : Str} {z : StaffG} (hg : HouseAt K H G) (h : (G.staff.find? fun l => decide (l.name = x)) = some z) : DGet H G.sd (.str x) (some (.ref z.t)) := by
  have y := DGet.k (k := Sum.inr x) hg.sd
  rw [staff_get, h] at y
  exact y
theorem hind_of {h : HouseS} {x : Str} {j : JobS} {r : RowS} (hr' : h.row j.kind = some r) : h.hindrance x j = if ¬ j.kind ∈ h.kindsOf x then (some (Str.ofString "kind"), h)
    else if ¬ r.cnt < r.most then (some (Str.ofString "most"), h) else if ¬ (h.lately j.kind).1 < r.rate then (some (Str.ofString "rate"), (h.lately j.kind).2)
    else (if (h.handsOf x : Int) ≥ h.hands then some (Str.ofString "hands") else none, (h.lately j.kind).2) := by
  unfold HouseS.hindrance
  rw [hr']
@[irreducible] def sp_House_hindrance (K : PySem.W.Frag) : Sp := fun vs H Q E => ∃ (G : HG) (x : Str) (n : Nat) (g : JobG) (r : RowS) (z : StaffG), vs = [.ref G.p, .str x, .ref g.a] ∧ HouseAt K H G ∧ G.jobs[n]? = some g ∧ g.steps ≠ [] ∧ (G.er.rows.map (·.kind)).Nodup ∧ G.er.row g.kind = some r ∧ r.ticks.length < sizeLine ∧
  (G.staff.find? fun l => decide (l.name = x)) = some z ∧ G.cnt.length < sizeLine ∧ ∀ H' G', Stp K H G H' G' → G'.er = (G.er.hindrance x g.toJobS).2 → Q (optS (G.er.hindrance x g.toJobS).1) H'
theorem er_staff (G : HG) (x : Str) {z : StaffG} (h : (G.staff.find? fun l => decide (l.name = x)) = some z) : G.er.kindsOf x = z.kinds := by
  unfold HouseS.kindsOf HG.er
  simp only
  rw [find_map, h]
  rfl
theorem sc_House_hindrance : FnScope ["self", "worker", "job", "kind"] ["self", "worker", "job"] (defScope s_House_hindrance) := ⟨rfl, rfl, rfl, by decide +kernel, rfl, by decide +kernel, by decide +kernel⟩
theorem Tp.ok_House_hindrance (T : Tp P w K mg base) : FnR P w K mg base (L2.CX P w) (2 + 1) (He.ma K (He.ga K "House") "hindrance") (sp_House_hindrance K) := by
  refine fnr (N := ["self", "worker", "job", "kind"]) (ps := ["self", "worker", "job"]) (k := 2) T.fd_House_hindrance sc_House_hindrance (fun _ _ _ _ _ _ us hl => match us, hl with | [_, _, _], _ => rfl) (fun vs H Q E h => ?_) fun cdv A outer s H vs Q E hr h => ?_
  · unfold sp_House_hindrance at h
    obtain ⟨_, _, _, _, _, _, rfl, _⟩ := h
    rfl
  unfold sp_House_hindrance at h
  obtain ⟨G, x, n, g, r, z, rfl, hg, hn, hs, nd, hr', hz, hz2, hl, q⟩ := h
  refine ⟨_, (pss_cons (ps_set (i := 3) sc_House_hindrance.nd rfl (by first | exact .inl rfl | exact .inr rfl) (pe_methR0 (pv 2) T.c_Job T.m_Job_kind T.ok_Job_kind (rm hr) passE))
      (pss_cons (ps_if (pt_cmpR op_notIn_seq (pv 3) (pe_dget (hu_of hr) (pe_fld (pv 0) rfl) (pv 1) (fun _ _ => rfl)) (by rfl)) (pss_one (ps_ret (pe_gs rfl T.v_KIND))) pss_nil)
      (pss_cons (ps_if (pt_not (pt_val (pe_methR (pe_fld (pv 0) rfl) T.c_Limits T.m_Limits_has_room T.ok_Limits_has_room (rm hr) passE (pa_cons (pv 3) pa_nil)))) (pss_one (ps_ret (pe_gs rfl T.v_MOST))) pss_nil)
      (pss_cons (ps_if (pt_not (pt_val (pe_methR (pe_fld (pv 0) rfl) T.c_Limits T.m_Limits_has_rate T.ok_Limits_has_rate (rm hr) passE (pa_cons (pv 3) (pa_cons (pe_fld (pv 0) rfl) pa_nil))))) (pss_one (ps_ret (pe_gs rfl T.v_RATE))) pss_nil)
      (pss_one (ps_ret (pe_ifExp (pt_cmpR op_ge (pe_methR (pv 0) T.c_House T.m_House_hands_of T.ok_House_hands_of (rm hr) passE (pa_cons (pv 1) pa_nil)) (pe_fld (pv 0) rfl) (nomark _)) (pe_gs rfl T.v_HANDS) pe_non))))))), ?_⟩
  have hj := hg.jobs g (job_mem hn)
  rw [hind_of hr', er_staff G x hz2] at q
  refine ⟨_, rfl, jm hj (by kernel_rfl) (jkind_ok hj hs ?_)⟩
  have hzm : z ∈ G.staff := List.mem_of_find?_eq_some hz2
  refine ⟨_, rfl, _, rfl, T.hr_staff hg ⟨_, rfl, _, _, rfl, staff_dget hg hz2, ?_⟩⟩
  refine ⟨_, _, rfl, .inr (hg.staff z hzm), rfl, strs_flat _, _, rfl, ?_⟩
  show if (!inV (.str g.kind) (vstrs z.kinds)) = true then _ else _
  rw [inV_strs]
  by_cases m : g.kind ∈ z.kinds
  · rw [if_neg (fun z => z m)] at q
    refine nF m ?_
    refine ⟨_, rfl, T.hr_limits hg (mm hg (by kernel_rfl) ⟨_, rfl, room_ok hg hr' ⟨_, rfl, ?_⟩⟩)⟩
    by_cases h2 : r.cnt < r.most
    · rw [if_neg (fun z => z h2)] at q
      refine nF h2 ?_
      refine ⟨_, rfl, T.hr_limits hg (mm hg (by kernel_rfl) ⟨_, rfl, _, rfl, T.hr_here hg (rate_ok hg nd hr' hz fun H' G' st e => ⟨_, rfl, ?_⟩)⟩)⟩
      by_cases h3 : (G.er.lately g.kind).1 < r.rate
      · rw [if_neg (fun z => z h3)] at q
        refine nF h3 ?_
        have ec : G'.er.cnt = G.er.cnt := by
          rw [e]
          unfold HouseS.lately
          rw [hr']
          rfl
        have eh : G'.hands = G.hands := by
          have : G'.er.hands = G.er.hands := by
            rw [e]
            unfold HouseS.lately
            rw [hr']
            rfl
          exact this
        have el : G'.cnt.length = G.cnt.length := by
          have := congrArg List.length ec
          unfold HG.er at this
          simpa using this
        rw [← st.p]
        refine ⟨_, rfl, hm st.at_ (by kernel_rfl) ⟨_, rfl, hands_ok st.at_ (by omega) fun H2 s2 => ⟨_, rfl, T.hr_hands (st.at_.same s2) ⟨_, _, rfl, rfl, _, rfl, ?_⟩⟩⟩⟩
        have eo : G'.er.handsOf x = G.er.handsOf x := by
          unfold HouseS.handsOf
          rw [ec]
        rw [eo, eh]
        have z := q H2 G' (st.trans (.same st.at_ s2)) e
        by_cases h4 : (G.er.handsOf x : Int) ≥ G.hands
        · rw [if_pos (show (G.er.handsOf x : Int) ≥ G.er.hands from h4)] at z
          exact dT h4 z
        · rw [if_neg (show ¬ (G.er.handsOf x : Int) ≥ G.er.hands from h4)] at z
          exact dF h4 z
      · rw [if_pos h3] at q
        exact nT h3 (q H' G' st e)
    · rw [if_pos h2] at q
      exact nT h2 (q H G (.refl hg) rfl)
  · rw [if_pos m] at q
    exact nT m (q H G (.refl hg) rfl)
end LH
end

section
set_option Elab.async false
set_option linter.all false
set_option maxRecDepth 100000
set_option maxHeartbeats 4000000
namespace LH
open PySem PySem.Spec PyProof.Rows L2 StX PySem.W LamX
variable {P : Program} {w : World} {K : PySem.W.Frag} {mg : Str → Option Value} {base : Heap}
theorem pg_tupK {X : Cx} (K : PySem.W.Frag) (hK : X.K = K) (n : Nat) (hc : X.calm = true) {es : List Expr} {k : Nat} {t : TGs} {pos : Pos} (h : PGs X es t)
    (hn : (assignEach es X.env).length = n := by rfl) (hst : (assignEach es X.env).findIdx? (·.1) = none := by rfl) : PG X (.Tuple es k pos) (gTup K n t) := by
  subst hK
  exact pg_tup hc h hn hst
/-- as fnr, of a def that makes a lambda -/
theorem fnrC {N ps : List Str} {x qual : Str} {params : Arguments} {body : List Stmt} {scope : Scope} {f : Addr} {k : Nat} {sp : Sp} (p : Str × Option Str) (hp : He.fAd K p = f) (F : ∃ fd, FunD K x qual params body scope [] [] f fd) (S : FnScope N ps scope)
    (hb : ∀ (kV doc pm : Value) (an : Option Addr) (cdv ct : Value) (us : List Value), us.length = ps.length → bindArgs (PySem.W.fnOf x qual params body scope .none kV doc pm an cdv ct) ⟨us, []⟩ = pure (ps.zip us))
    (len : ∀ vs H Q E, sp vs H Q E → vs.length = ps.length)
    (hbody : ∀ (cdv : Value) (A : Around) (outer : List Env) (s : Shared) (H : Hp) (vs : List V) (Q : VK) (E : XK), Room k (A.deeper (envOfC qual scope s.heap.objs.size f cdv)) → cdv = .ref (He.codeOf K p) → sp vs H Q E →
      ∃ t, PSs (XB P w K mg base N qual scope f cdv A outer s H E) body t ∧ t { nx := fun _ H' => Q .non H', rt := Q } (start N vs) H) : FnR P w K mg base (L2.CX P w) (k + 1) f sp := by
  obtain ⟨fd, F⟩ := F
  obtain ⟨oc, od, dV, kV, doc, pm, an, cdv, ct, osl, rfl, lk, hcd, _, _⟩ := id F.ex
  obtain ⟨c, rfl⟩ := He.codeIn_ref hcd
  have hc : Value.ref c = .ref (He.codeOf K p) := by
    rw [He.codeOf_eq (by rw [hp]; exact lk) rfl]
  have h : FnOk P w K mg base (L2.CX P w) (k + 1) f _ ps sp := fn_of lk hcd S len fun A outer s H vs Q E hr hsp => hbody _ A outer s H vs Q E hr hc hsp
  have h2 := h.raw (F.bindsN hb) .nil
  simpa only [List.append_nil] using h2
structure TabD (K : PySem.W.Frag) (mg : Str → Option Value) (base : Heap) (p : He.Defn) (q : Str) : Prop where
  tb : TabB base mg (He.cT K p).1 (He.cT K p).2
  mem : ((He.cT K p).2, q) ∈ TT K
  uniq : ∀ y ∈ TT K, y.1 = (He.cT K p).2 → y.2 = q
theorem Tp.tab_House_turn (T : Tp P w K mg base) : TabD K mg base ("House", some "turn") "House.turn.<locals>.<lambda>" := by
  have u := T.uniq
  simp only [tfL, List.map_cons, List.map_nil, List.nodup_cons, List.mem_singleton] at u
  refine ⟨T.tab _ (by simp [tfL]), by simp [TT], fun y hy e => ?_⟩
  simp only [TT, List.mem_cons, List.mem_singleton, List.not_mem_nil, or_false] at hy
  rcases hy with h | h
  · rw [h]
  · rw [h] at e
    exact absurd e.symm u.1
theorem Tp.tab_House_order (T : Tp P w K mg base) : TabD K mg base ("House", some "order") "House.order.<locals>.<lambda>" := by
  have u := T.uniq
  simp only [tfL, List.map_cons, List.map_nil, List.nodup_cons, List.mem_singleton] at u
  refine ⟨T.tab _ (by simp [tfL]), by simp [TT], fun y hy e => ?_⟩
  simp only [TT, List.mem_cons, List.mem_singleton, List.not_mem_nil, or_false] at hy
  rcases hy with h | h
  · rw [h] at e
    exact absurd e u.1
  · rw [h]
theorem ready_ok {G : HG} {g : JobG} {H : Hp} {Q : VK} {E : XK} (hg : HouseAt K H G) (hj : JobAt K H g) (hl : g.needs.length ≤ 6) (hn : ∀ n ∈ g.needs, n < G.jobs.length) (q : ∀ H', Same H H' → Q (.bl (G.er.isReady g.toJobS)) H') :
    sp_House_is_ready K [.ref G.p, .ref g.a] H Q E := by
  unfold sp_House_is_ready
  exact ⟨G, g, rfl, hg, hj, hl, hn, q⟩
theorem turnof_ok {G : HG} {n : Nat} {g : JobG} {H : Hp} {Q : VK} {E : XK} (hg : HouseAt K H G) (hn : G.jobs[n]? = some g) (ha : G.age ≤ 1000000) (q : ∀ t, H t = none → Q (.ref t) (upd H t (.tup [.int (0 - G.er.rankOf g.toJobS), .int g.since, .int (n : Int)]))) :
    sp_House_turn_of K [.ref G.p, .int (n : Int)] H Q E := by
  unfold sp_House_turn_of
  exact ⟨G, n, g, rfl, hg, hn, ha, q⟩
theorem _root_.LH.HouseAt.extN {H H' : Hp} {G : HG} (hg : HouseAt K H G) (e : ExtN H H') : HouseAt K H' G :=
  hg.mono (fun b hb o eb => e b o eb fun ps z => by
    obtain ⟨u, eu, wu⟩ := hg.wr hb
    rw [eb] at eu
    rw [← Option.some.inj eu, z] at wu
    exact wu) (KeepT.mk2 (fun b xs z => e _ _ z fun _ q => nomatch q) fun b o xs z => e _ _ z fun _ q => nomatch q)
theorem er_len (G : HG) : G.er.jobs.length = G.jobs.length := by simp [HG.er]
theorem ok_job {G : HG} (ok : HouseOk G.er) {i : Nat} {g : JobG} (h : G.jobs[i]? = some g) : g.steps ≠ [] ∧ (∀ s ∈ g.steps, ∃ r, G.er.row s = some r) ∧ (∀ n ∈ g.needs, n < i) ∧ g.needs.length ≤ 6 ∧ g.steps.length ≤ 5 ∧ g.tries ≤ 900 :=
  ok.jobs i g.toJobS (by rw [er_job, h]; rfl)
@[irreducible] def sp_House_order (K : PySem.W.Frag) : Sp := fun vs H Q E => ∃ G : HG, vs = [.ref G.p] ∧ HouseAt K H G ∧ HouseOk G.er ∧ G.age ≤ 1000000 ∧ Tabs (TT K) H ∧ ∀ H' t, Stp K H G H' G → t ∉ adr G → H' t = some (.lst (vnats G.er.order)) → Q (.ref t) H'
theorem sc_House_order : FnScope ["self", "found", "number", "job"] ["self"] (defScope s_House_order) := ⟨rfl, rfl, rfl, by decide +kernel, rfl, by decide +kernel, by decide +kernel⟩
theorem Tp.ok_House_order (T : Tp P w K mg base) : FnR P w K mg base (L2.CX P w) (6 + 1) (He.ma K (He.ga K "House") "order") (sp_House_order K) := by
  refine fnrC (N := ["self", "found", "number", "job"]) (ps := ["self"]) (k := 6) ("House", some "order") rfl T.fd_House_order sc_House_order (fun _ _ _ _ _ _ us hl => match us, hl with | [_], _ => rfl) (fun vs H Q E h => ?_) fun cdv A outer s H vs Q E hr hc h => ?_
  · unfold sp_House_order at h
    obtain ⟨_, rfl, _⟩ := h
    rfl
  unfold sp_House_order at h
  obtain ⟨G, rfl, hg, ok, ha, tb, q⟩ := h
  refine ⟨_, (pss_cons (ps_setLc (i := 1) (own := [("number", 2), ("job", 3)]) rfl sc_House_order.nd rfl rfl rfl (pi_enum rfl T.f_enumerate (pa_cons (pe_fld (pv 0) rfl) pa_nil)) (blkOk_by (own := [("number", 2), ("job", 3)]) (N := ["self", "found", "number", "job"]) (sc := defScope s_House_order) (by decide +kernel)) (fun _ _ _ _ _ => (pg_tupK K rfl 2 rfl (pgs_cons (pg_name (i := 2) sc_House_order.nd rfl (by first | exact .inl rfl | exact .inr rfl)) (pgs_cons (pg_name (i := 3) sc_House_order.nd rfl (by first | exact .inl rfl | exact .inr rfl)) pgs_nil)))) (fun _ _ _ _ _ => (pts_one (pt_val (pe_methR (pv 0) T.c_House T.m_House_is_ready T.ok_House_is_ready (rm hr) passL (pa_cons (pv 3) pa_nil))))) (fun _ _ _ _ _ => (pv 2)))
      (pss_one (ps_ret (pe_sortL (i := 2) rfl T.f_sorted (pa_cons (pv 1) pa_nil) sc_House_order.nd rfl T.tab_House_order.tb hc T.tab_House_order.mem T.tab_House_order.uniq hr (lam1_by (sc := defScope s_House_order) (by decide +kernel)) rfl (fun _ _ _ _ _ _ => rfl) (fun _ _ _ _ _ _ hr => (pe_methR (pv 0) T.c_House T.m_House_turn_of T.ok_House_turn_of (rm hr) passL (pa_cons (pv 2) pa_nil))))))), ?_⟩
  refine ⟨_, rfl, T.hr_jobs hg ⟨_, _, rfl, SqL.of hg.jl, fun D hD => ?_⟩⟩
  refine lcS (walk_enum (xs := refs (·.a) G.jobs)) (List.range G.jobs.length) (fun n => if (match G.er.jobs[n]? with | none => false | some j => G.er.isReady j) = true then some (V.int (n : Nat)) else none) (by simp [refs]) ?_ hD (fun H' s => sqL_same (SqL.of hg.jl) s) ?_ ?_
  · have h1 := ok.sizes.1
    have h2 : (1000000 : Nat) < sizeLine := by decide
    rw [er_len] at h1
    simp only [refs, List.length_map]
    omega
  · rintro i a x Hc H' R R0 ea s ⟨p, u, v, rfl, hn, rfl, eu, ev⟩ k1 k2
    have ea2 : i < G.jobs.length ∧ a = i := by
      obtain ⟨z1, z2⟩ := List.getElem?_eq_some_iff.mp ea
      simp only [List.length_range] at z1
      simp only [List.getElem_range] at z2
      exact ⟨z1, z2.symm⟩
    obtain ⟨hlt, rfl⟩ := ea2
    obtain ⟨g, eg⟩ : ∃ g, G.jobs[a]? = some g := ⟨_, List.getElem?_eq_getElem hlt⟩
    obtain rfl : V.int (a : Nat) = u := Option.some.inj eu
    obtain rfl : V.ref g.a = v := by
      have ev : (refs (·.a) G.jobs)[a]? = some v := ev
      rw [refs_at eg] at ev
      exact Option.some.inj ev
    have s2 := Same.trans' s (same_new (o := .tup [.int (a : Nat), .ref g.a]) hn)
    have hg2 := hg.same s2
    obtain ⟨_, _, o3, o4, _, _⟩ := ok_job ok eg
    have eJ : (match G.er.jobs[a]? with | none => false | some j => G.er.isReady j) = G.er.isReady g.toJobS := by rw [er_job, eg]; rfl
    rw [eJ] at k1 k2
    refine ⟨p, _, rfl, SqT.of upd_same, rfl, _, _, rfl, _, _, rfl, rfl, rfl, ?_⟩
    refine ⟨_, rfl, hm hg2 (by kernel_rfl) ⟨_, rfl, ready_ok hg2 (hg2.jobs g (job_mem eg)) o4 (fun n hn => Nat.lt_trans (o3 n hn) hlt) fun H4 s4 => ⟨_, rfl, ?_⟩⟩⟩
    have s5 := Same.trans' (same_new (o := .tup [.int (a : Nat), .ref g.a]) hn) s4
    cases e : G.er.isReady g.toJobS with
    | true => exact ⟨_, rfl, k1 _ _ (by rw [e]; rfl) s5⟩
    | false => exact k2 _ (by rw [e]; rfl) s5
  · intro H' s e
    rw [fm_filter] at e
    have e : H' D = some (.lst (G.er.ready.map fun n => V.int (n : Nat))) := by
      rw [e]
      unfold HouseS.ready
      rw [er_len] <;> rfl
    have key : ∀ n ∈ G.er.ready, ∃ g, G.jobs[n]? = some g ∧ G.er.turnKey n = .tuple [I' (0 - G.er.rankOf g.toJobS), I' g.since, N' n] := fun n hn => by
      unfold HouseS.ready at hn
      have hlt := List.mem_range.mp (List.mem_filter.mp hn).1
      rw [er_len] at hlt
      refine ⟨_, List.getElem?_eq_getElem hlt, ?_⟩
      unfold HouseS.turnKey
      rw [er_job, List.getElem?_eq_getElem hlt]
      rfl
    refine ⟨_, rfl, D, Nat, G.er.turnKey, fun n => V.int (n : Nat), G.er.ready, rfl, SqL.of e, ?_⟩
    refine ⟨?_, ?_, ?_, (FrH.same (T := TT K) (G := G) (G' := G) s fun b hb => .inl hb).tabs tb, fun H2 eN tb2 => ⟨?_, ?_⟩⟩
    · intro d hd d' hd'
      obtain ⟨n, hn, rfl⟩ := List.mem_map.mp hd
      obtain ⟨m, hm', rfl⟩ := List.mem_map.mp hd'
      obtain ⟨_, _, e1⟩ := key n hn
      obtain ⟨_, _, e2⟩ := key m hm'
      rw [e1, e2]
      rfl
    · refine .inl fun d hd => ?_
      obtain ⟨n, hn, rfl⟩ := List.mem_map.mp hd
      obtain ⟨_, _, e1⟩ := key n hn
      exact ⟨_, _, e1⟩
    · intro n hn
      obtain ⟨_, _, e1⟩ := key n hn
      rw [e1]
      simp only [PyData.depth, PyData.depthAll]
      omega
    · intro n hn H3 s3
      obtain ⟨g, eg, e1⟩ := key n hn
      have hg3 := ((hg.same s).extN eN).same s3
      refine ⟨_, rfl, hm hg3 (by kernel_rfl) ⟨_, rfl, turnof_ok hg3 eg ha fun t ht => ⟨same_new ht, ?_⟩⟩⟩
      rw [e1]
      exact .tup (SqT.of upd_same) (.cons (.int _) (.cons (.int _) (.cons (.int _) .nil)))
    · intro p H3 s3 hp
      have hg3 := ((hg.same s).extN eN).same s3
      refine q _ p ⟨hg3.same (same_new hp), ⟨fun b o eb nt na => ⟨same_new hp _ _ (s3 _ _ (eN _ _ (s _ _ eb) nt)), na⟩, fun _ => ?_⟩, rfl, fun i g h => ⟨g, h, rfl⟩⟩ ?_ ?_
      · exact (FrH.same (T := TT K) (G := G) (G' := G) (Same.trans' s3 (same_new (o := .lst ((G.er.ready.mergeSort (dataLe false G.er.turnKey)).map fun n => V.int (n : Nat))) hp)) fun b hb => .inl hb).tabs tb2
      · exact hg3.outN hp
      · rw [upd_same, HouseS.order_eq]
        rfl
end LH
end

section
set_option Elab.async false
set_option linter.all false
set_option maxRecDepth 100000
set_option maxHeartbeats 4000000
namespace LH
open PySem PySem.Spec PyProof.Rows L2 StX
variable {P : Program} {w : World} {K : PySem.W.Frag} {mg : Str → Option Value} {base : Heap}
/-! ### one store, as a step -/
theorem stp_of {H : Hp} {G G' : HG} {a : Addr} {o : HO} (hg : HouseAt K H G) (ha : a ∈ adr G) (h' : HouseAt K (upd H a o) G') (hs : ∀ b ∈ adr G', b ∈ adr G) (hb : pa0 G' = pa0 G)
    (hj : ∀ (i : Nat) (g : JobG), G.jobs[i]? = some g → ∃ g' : JobG, G'.jobs[i]? = some g' ∧ g'.a = g.a) : Stp K H G (upd H a o) G' := ⟨h', FrH.put hg ha hs, hb, hj⟩
theorem same_jobs {G : HG} : ∀ (i : Nat) (g : JobG), G.jobs[i]? = some g → ∃ g' : JobG, G.jobs[i]? = some g' ∧ g'.a = g.a := fun _ g h => ⟨g, h, rfl⟩
theorem stp_setR {H : Hp} {G : HG} {r r' : RowG} {i : Nat} (hg : HouseAt K H G) (hi : G.rows[i]? = some r) (ea : r'.a = r.a) (et : r'.tk = r.tk) (ek : r'.kind = r.kind) (ec : r'.ticks = r.ticks) : Stp K H G (upd H r.a (.lst (rowL r'))) { G with rows := G.rows.set i r' } :=
  stp_of hg (b1 (mi1 (List.mem_of_getElem? hi))) (hg.setR hi ea et ek ec) (fun b hb => by
    unfold adr at hb ⊢
    rw [show pa1 (G.rows.set i r') = pa1 G.rows from pa1_set hi ea et] at hb
    exact hb) rfl same_jobs
theorem stp_setT {H : Hp} {G : HG} {r r' : RowG} {i : Nat} (hg : HouseAt K H G) (hi : G.rows[i]? = some r) (er : r' = { r with ticks := r'.ticks }) : Stp K H G (upd H r.tk (.lst (vints r'.ticks))) { G with rows := G.rows.set i r' } :=
  stp_of hg (b1 (mi1t (List.mem_of_getElem? hi))) (hg.setT hi er) (fun b hb => by
    unfold adr at hb ⊢
    rw [show pa1 (G.rows.set i r') = pa1 G.rows from pa1_set hi (by rw [er]) (by rw [er])] at hb
    exact hb) rfl same_jobs
theorem pa2_set {l : List JobG} {i : Nat} {g g' : JobG} (hi : l[i]? = some g) (ea : g'.a = g.a) : pa2 (l.set i g') = pa2 l := by
  unfold pa2
  exact map_set' (f := fun g : JobG => g.a) hi ea
theorem stp_setJ {H : Hp} {G : HG} {g : JobG} {j : JobS} {i : Nat} (hg : HouseAt K H G) (hi : G.jobs[i]? = some g) (es : j.steps = g.steps) (ed : j.needs = g.needs) : Stp K H G (upd H g.a (.ins (cJ K) g.dx (jobFs (g.W j)))) { G with jobs := G.jobs.set i (g.W j) } :=
  stp_of hg (b2 (mi2 (List.mem_of_getElem? hi))) (hg.setJ hi (g' := g.W j) rfl rfl rfl es ed) (fun b hb => by
    unfold adr at hb ⊢
    rw [show pa2 (G.jobs.set i (g.W j)) = pa2 G.jobs from pa2_set hi rfl] at hb
    exact hb) rfl fun k q hq => by
      by_cases h : i = k
      · subst h
        rw [hi] at hq
        rw [← Option.some.inj hq]
        exact ⟨g.W j, by show (G.jobs.set i (g.W j))[i]? = _; rw [List.getElem?_set_self (List.getElem?_eq_some_iff.mp hi).1], rfl⟩
      · exact ⟨q, by show (G.jobs.set i (g.W j))[k]? = _; rw [List.getElem?_set_ne h]; exact hq, rfl⟩
theorem stp_putE {H : Hp} {G : HG} {v : V} {d : PyData} (hg : HouseAt K H G) (hd : Dt K H v d) : Stp K H G (upd H G.el (.lst (G.log.map (·.1) ++ [v]))) { G with log := G.log ++ [(v, d)] } :=
  stp_of hg (b0 (i := 7)) (hg.putE hd) (fun b hb => hb) rfl same_jobs
theorem stp_putP {H : Hp} {G G' : HG} (hg : HouseAt K H G) (hp : G' = { G with here := G'.here, given := G'.given }) : Stp K H G (upd H G.p (.ins (cH K) G.dx (houseFs G'))) G' :=
  stp_of hg (b0 (i := 0)) (hg.putP rfl hp) (fun b hb => by rw [hp] at hb; exact hb) (by rw [hp]; rfl) (by rw [hp]; exact same_jobs)
/-! ### begun, over -/
theorem er_set {G : HG} {i : Nat} {r r' : RowG} {k : Str} {f : RowS → RowS} (nd : (G.er.rows.map (·.kind)).Nodup) (hi : G.rows[i]? = some r) (hk : r.kind = k) (e : r'.toRowS = f r.toRowS) : HG.er { G with rows := G.rows.set i r' } = G.er.rowUp k f := by
  have z := set_kind (f := f) (r' := r') (k := k) (by rw [← er_kinds]; exact nd) hi hk e
  unfold HG.er HouseS.rowUp
  simp only
  rw [z]
@[irreducible] def sp_Limits_over (K : PySem.W.Frag) : Sp := fun vs H Q E => ∃ (G : HG) (k : Str) (r : RowS), vs = [.ref G.lim, .str k] ∧ HouseAt K H G ∧ (G.er.rows.map (·.kind)).Nodup ∧ G.er.row k = some r ∧
  ∀ H' G', Stp K H G H' G' → G'.er = (G.er.rowUp k fun r => { r with cnt := r.cnt - 1 }) → (∀ b, b ∉ pa1 G.rows → H' b = H b) → G'.cnt = G.cnt → G'.jobs = G.jobs → Q .non H'
theorem sc_Limits_over : FnScope ["self", "kind"] ["self", "kind"] (defScope s_Limits_over) := ⟨rfl, rfl, rfl, by decide +kernel, rfl, by decide +kernel, by decide +kernel⟩
theorem Tp.ok_Limits_over (T : Tp P w K mg base) : FnR P w K mg base (L2.CX P w) (0 + 1) (He.ma K (He.ga K "Limits") "over") (sp_Limits_over K) := by
  refine fnr (N := ["self", "kind"]) (ps := ["self", "kind"]) (k := 0) T.fd_Limits_over sc_Limits_over (fun _ _ _ _ _ _ us hl => match us, hl with | [_, _], _ => rfl) (fun vs H Q E h => ?_) fun cdv A outer s H vs Q E hr h => ?_
  · unfold sp_Limits_over at h
    obtain ⟨_, _, _, rfl, _⟩ := h
    rfl
  unfold sp_Limits_over at h
  obtain ⟨G, k, r, rfl, hg, nd, hr', q⟩ := h
  refine ⟨_, (pss_one (ps_augS (pe_dget (hu_of hr) (pe_fld (pv 0) rfl) (pv 1) (fun _ _ => rfl)) pe_int pget_list pe_int ip_sub set_list)), ?_⟩
  obtain ⟨i, g, e1, e2, rfl, e4⟩ := row_some hr'
  have hrow := hg.rows g (List.mem_of_getElem? e2)
  refine ⟨_, rfl, T.mr_rows hg ⟨_, rfl, _, _, rfl, row_dget hg e1, _, _, 2, _, rfl, rfl, SqL.of hrow.ob, rfl, ?_⟩⟩
  refine ⟨_, _, rfl, rfl, _, _, _, _, rfl, rfl, hrow.ob, rfl, ?_⟩
  exact q _ _ (stp_setR hg e2 (r' := { g with cnt := g.cnt - 1 }) rfl rfl rfl rfl) (er_set nd e2 e4 rfl) (fun b hb => upd_ne fun z => hb (by rw [z]; exact mi1 (List.mem_of_getElem? e2))) rfl rfl
@[irreducible] def sp_Limits_begun (K : PySem.W.Frag) : Sp := fun vs H Q E => ∃ (G : HG) (k : Str) (r : RowS) (t : Int), vs = [.ref G.lim, .str k, .int t] ∧ HouseAt K H G ∧ (G.er.rows.map (·.kind)).Nodup ∧ G.er.row k = some r ∧ r.ticks.length < sizeLine ∧
  ∀ H' G', Stp K H G H' G' → G'.er = (G.er.rowUp k fun r => { r with cnt := r.cnt + 1, ticks := r.ticks ++ [t] }) → G'.cnt = G.cnt → G'.jobs = G.jobs → Q .non H'
theorem sc_Limits_begun : FnScope ["self", "kind", "tick"] ["self", "kind", "tick"] (defScope s_Limits_begun) := ⟨rfl, rfl, rfl, by decide +kernel, rfl, by decide +kernel, by decide +kernel⟩
theorem Tp.ok_Limits_begun (T : Tp P w K mg base) : FnR P w K mg base (L2.CX P w) (0 + 1) (He.ma K (He.ga K "Limits") "begun") (sp_Limits_begun K) := by
  refine fnr (N := ["self", "kind", "tick"]) (ps := ["self", "kind", "tick"]) (k := 0) T.fd_Limits_begun sc_Limits_begun (fun _ _ _ _ _ _ us hl => match us, hl with | [_, _, _], _ => rfl) (fun vs H Q E h => ?_) fun cdv A outer s H vs Q E hr h => ?_
  · unfold sp_Limits_begun at h
    obtain ⟨_, _, _, _, rfl, _⟩ := h
    rfl
  unfold sp_Limits_begun at h
  obtain ⟨G, k, r, t, rfl, hg, nd, hr', hz, q⟩ := h
  refine ⟨_, (pss_cons (ps_augS (pe_dget (hu_of hr) (pe_fld (pv 0) rfl) (pv 1) (fun _ _ => rfl)) pe_int pget_list pe_int ip_add set_list)
      (pss_one (ps_expr (pe_bm PySem.F.plainAttrs_list PySem.F.slot_list_append PySem.F.type_list_append mt_append (pe_ix ix_list (pe_dget (hu_of hr) (pe_fld (pv 0) rfl) (pv 1) (fun _ _ => rfl)) pe_int (fun _ _ => rfl)) (pa_cons (pv 2) pa_nil))))), ?_⟩
  obtain ⟨i, g, e1, e2, rfl, e4⟩ := row_some hr'
  have hrow := hg.rows g (List.mem_of_getElem? e2)
  refine ⟨_, rfl, T.mr_rows hg ⟨_, rfl, _, _, rfl, row_dget hg e1, _, _, 2, _, rfl, rfl, SqL.of hrow.ob, rfl, ?_⟩⟩
  refine ⟨_, _, rfl, rfl, _, _, _, _, rfl, rfl, hrow.ob, rfl, ?_⟩
  have hm2 := List.mem_of_getElem? e2
  have s1 := stp_setR hg e2 (r' := { g with cnt := g.cnt + 1 }) rfl rfl rfl rfl
  have e2' : (G.rows.set i { g with cnt := g.cnt + 1 })[i]? = some { g with cnt := g.cnt + 1 } := List.getElem?_set_self (List.getElem?_eq_some_iff.mp e2).1
  have hrow1 := s1.at_.rows _ (List.mem_of_getElem? e2')
  have hd : DGet (upd H g.a (.lst (rowL { g with cnt := g.cnt + 1 }))) G.rd (.str k) (some (.ref g.a)) := by
    have z := DGet.k (k := Sum.inr k) (st hg.rd (hg.ap.br _ (mi0 (i := 2)) _ (mi1 hm2)) : upd H g.a (.lst (rowL { g with cnt := g.cnt + 1 })) G.rd = _)
    rw [row_get, e1] at z
    exact z
  refine ⟨_, rfl, T.mr_rows s1.at_ ⟨_, rfl, _, _, rfl, hd, _, _, 3, _, rfl, rfl, SqL.of hrow1.ob, rfl, ?_⟩⟩
  refine ⟨.inl ⟨rfl, _, SqL.of hrow1.tk⟩, _, rfl, _, _, _, rfl, rfl, hrow1.tk, ?_, ?_⟩
  · simp only [vints, List.length_map]
    exact hz
  have s2 := stp_setT s1.at_ e2' (r' := { g with cnt := g.cnt + 1, ticks := g.ticks ++ [t] }) rfl
  have ev : vints (g.ticks ++ [t]) = vints g.ticks ++ [.int t] := by simp [vints]
  have z := q _ _ (s1.trans s2) ?_ rfl rfl
  · simp only [ev] at z
    exact z
  · show HG.er { G with rows := (G.rows.set i { g with cnt := g.cnt + 1 }).set i { g with cnt := g.cnt + 1, ticks := g.ticks ++ [t] } } = _
    rw [List.set_set]
    exact er_set nd e2 e4 rfl
end LH
end

section
set_option Elab.async false
set_option linter.all false
set_option maxRecDepth 100000
set_option maxHeartbeats 4000000
namespace LH
open PySem PySem.Spec PyProof.Rows L2 StX
variable {P : Program} {w : World} {K : PySem.W.Frag} {mg : Str → Option Value} {base : Heap}
theorem over_ok {G : HG} {k : Str} {r : RowS} {H : Hp} {Q : VK} {E : XK} (hg : HouseAt K H G) (nd : (G.er.rows.map (·.kind)).Nodup) (hr' : G.er.row k = some r)
    (q : ∀ H' G', Stp K H G H' G' → G'.er = (G.er.rowUp k fun r => { r with cnt := r.cnt - 1 }) → (∀ b, b ∉ pa1 G.rows → H' b = H b) → G'.cnt = G.cnt → G'.jobs = G.jobs → Q .non H') : sp_Limits_over K [.ref G.lim, .str k] H Q E := by
  unfold sp_Limits_over
  exact ⟨G, k, r, rfl, hg, nd, hr', q⟩
theorem drop_cnt (l : List LeaseG) (n : Nat) : dropK (cntD l) (Sum.inl (n : Int)) = cntD (l.filter fun o => decide (o.num ≠ n)) := by
  unfold dropK cntD
  rw [List.filter_map]
  congr 1
  apply List.filter_congr
  intro o _
  simp [Int.ofNat_inj]
theorem find_num {l : List LeaseG} {x : LeaseG} (nd : (l.map (·.num)).Nodup) (h : x ∈ l) : l.find? (fun o => decide (o.num = x.num)) = some x := by
  induction l with
  | nil => cases h
  | cons a l ih =>
    rw [List.map_cons, List.nodup_cons] at nd
    rcases List.mem_cons.mp h with e | h
    · subst e
      simp
    · have hne : a.num ≠ x.num := fun z => nd.1 (by rw [z]; exact List.mem_map_of_mem h)
      rw [List.find?_cons, decide_eq_false hne]
      exact ih nd.2 h
theorem er_nums (G : HG) : G.er.cnt.map (·.num) = G.cnt.map (·.num) := by
  unfold HG.er
  rw [List.map_map]
  rfl
theorem er_filter (G : HG) (n : Nat) : (G.cnt.filter fun o => decide (o.num ≠ n)).map (·.toLeaseS) = G.er.cnt.filter fun o => decide (o.num ≠ n) := by
  unfold HG.er
  simp only
  rw [List.filter_map]
  rfl
theorem er_dropC (G : HG) (n : Nat) : HG.er { G with cnt := G.cnt.filter fun o => decide (o.num ≠ n) } = { G.er with cnt := G.er.cnt.filter fun o => decide (o.num ≠ n) } := by
  have z := er_filter G n
  unfold HG.er at z ⊢
  simp only at z ⊢
  rw [z]
theorem stp_dropC {H : Hp} {G : HG} (hg : HouseAt K H G) (p : LeaseG → Bool) : Stp K H G (upd H G.cd (.dK (cntD (G.cnt.filter p)))) { G with cnt := G.cnt.filter p } :=
  stp_of hg (b0 (i := 4)) (hg.dropC p) (fun b hb => by
    unfold adr at hb ⊢
    simp only [List.mem_append] at hb ⊢
    rcases hb with h | h | h | h | h
    · exact .inl h
    · exact .inr (.inl h)
    · exact .inr (.inr (.inl h))
    · unfold pa3 at h
      obtain ⟨o, ho, rfl⟩ := List.mem_map.mp h
      exact .inr (.inr (.inr (.inl (mi3 (List.mem_filter.mp ho).1))))
    · exact .inr (.inr (.inr (.inr h)))) rfl same_jobs
theorem out_lease {H : Hp} {G : HG} {l : LeaseG} (hg : HouseAt K H G) (hl : l ∈ G.cnt) : l.a ∉ adr { G with cnt := G.cnt.filter fun o => decide (o.num ≠ l.num) } := fun h => by
  have A := hg.ap
  unfold adr at h
  simp only [List.mem_append] at h
  rcases h with h | h | h | h | h
  · exact A.bc _ h _ (mi3 hl) rfl
  · exact A.rc _ h _ (mi3 hl) rfl
  · exact A.jc _ h _ (mi3 hl) rfl
  · unfold pa3 at h
    obtain ⟨o, ho, e⟩ := List.mem_map.mp h
    obtain ⟨ho1, ho2⟩ := List.mem_filter.mp ho
    have e2 : o = l := by
      obtain ⟨i, hi, ei⟩ := List.getElem_of_mem ho1
      obtain ⟨j, hj, ej⟩ := List.getElem_of_mem hl
      have z : (pa3 G.cnt)[i]'(by simp [pa3]; exact hi) = (pa3 G.cnt)[j]'(by simp [pa3]; exact hj) := by simp [pa3, ei, ej, e]
      have := (List.getElem_inj A.c).mp z
      subst this
      exact ei.symm.trans ej
    rw [e2] at ho2
    simp at ho2
  · exact A.ck _ (mi3 hl) _ h rfl
@[irreducible] def sp_House_closed (K : PySem.W.Frag) : Sp := fun vs H Q E => ∃ (G : HG) (l : LeaseG) (g : JobG) (r : RowS), vs = [.ref G.p, .ref l.a] ∧ HouseAt K H G ∧ l ∈ G.cnt ∧ G.jobs[l.work]? = some g ∧ g.steps ≠ [] ∧ (G.er.rows.map (·.kind)).Nodup ∧ (G.er.cnt.map (·.num)).Nodup ∧ G.er.row g.kind = some r ∧
  ∀ H' G', Stp K H G H' G' → G'.er = G.er.closed l.toLeaseS → LeaseAt K H' l → l.a ∉ adr G' → G'.jobs = G.jobs → G'.cnt = (G.cnt.filter fun o => decide (o.num ≠ l.num)) → Q (.ref g.a) H'
theorem sc_House_closed : FnScope ["self", "lease", "job"] ["self", "lease"] (defScope s_House_closed) := ⟨rfl, rfl, rfl, by decide +kernel, rfl, by decide +kernel, by decide +kernel⟩
theorem Tp.ok_House_closed (T : Tp P w K mg base) : FnR P w K mg base (L2.CX P w) (1 + 1) (He.ma K (He.ga K "House") "closed") (sp_House_closed K) := by
  refine fnr (N := ["self", "lease", "job"]) (ps := ["self", "lease"]) (k := 1) T.fd_House_closed sc_House_closed (fun _ _ _ _ _ _ us hl => match us, hl with | [_, _], _ => rfl) (fun vs H Q E h => ?_) fun cdv A outer s H vs Q E hr h => ?_
  · unfold sp_House_closed at h
    obtain ⟨_, _, _, _, rfl, _⟩ := h
    rfl
  unfold sp_House_closed at h
  obtain ⟨G, l, g, r, rfl, hg, hl, hw, hs, nd, nn, hr', q⟩ := h
  refine ⟨_, (pss_cons (ps_set (i := 2) sc_House_closed.nd rfl (by first | exact .inl rfl | exact .inr rfl) (pe_ix ix_list (pe_fld (pv 0) rfl) (pe_fld (pv 1) rfl) (fun _ _ => rfl)))
      (pss_cons (ps_expr (pe_dpop1 (pe_fld (pv 0) rfl) (pe_fld (pv 1) rfl) ⟨rfl, rfl, rfl, rfl⟩))
      (pss_cons (ps_expr (pe_methR (pe_fld (pv 0) rfl) T.c_Limits T.m_Limits_over T.ok_Limits_over (rm hr) passE (pa_cons (pe_methR0 (pv 2) T.c_Job T.m_Job_kind T.ok_Job_kind (rm hr) passE) pa_nil)))
      (pss_one (ps_ret (pv 2)))))), ?_⟩
  have hla := hg.cnt l hl
  refine ⟨_, rfl, T.hr_jobs hg ⟨_, rfl, T.er_work hla ⟨_, _, _, _, rfl, rfl, SqL.of hg.jl, atI_nat (refs_at hw), ?_⟩⟩⟩
  refine ⟨_, rfl, T.hr_counting hg ⟨_, rfl, isD hg.cd, _, rfl, T.er_number hla ?_⟩⟩
  have hv : valV (cntD G.cnt) (Sum.inl (l.num : Int)) = some (.ref l.a) := by
    rw [cnt_get, find_num (by rw [← er_nums]; exact nn) hl]
    rfl
  refine ⟨_, _, _, hg.cd, rfl, hv, ?_⟩
  have s1 := stp_dropC hg fun o => decide (o.num ≠ l.num)
  rw [drop_cnt]
  have hg1 := s1.at_
  have hg1j := hg1.jobs g (job_mem hw)
  refine ⟨_, rfl, T.hr_limits hg1 (mm hg1 (by kernel_rfl) ⟨_, rfl, jm hg1j (by kernel_rfl) (jkind_ok hg1j hs (over_ok hg1 nd hr' fun H' G' s2 e2 ho ec ej => ⟨_, rfl, ?_⟩))⟩)⟩
  have hne : l.a ≠ G.cd := fun z => hg.ap.bc _ (mi0 (i := 4)) _ (mi3 hl) z.symm
  have h1a : upd H G.cd (.dK (cntD (G.cnt.filter fun o => decide (o.num ≠ l.num)))) l.a = some (.ins (cE K) l.dx (leaseFs l)) := (upd_ne hne).trans hla.ob
  have hk := s2.fr.keep l.a _ h1a (fun _ z => nomatch z) (out_lease hg hl)
  refine q H' G' (s1.trans s2) ?_ ⟨hk.1⟩ hk.2 ej ec
  rw [e2, er_dropC]
  unfold HouseS.closed
  rw [er_job, hw]
  rfl
/-! ### new things -/
theorem w0 {H : Hp} {a C dx : Addr} {fs : List (Str × V)} {f : Str} {v : V} (h : H a = some (.ins C dx fs)) (c : Cls K C) (n : NoAttr K C f) (hl : fs.length < 1000) {R : Hp → Prop} (q : R (upd H a (.ins C dx (putF f v fs)))) :
    ∃ a' C' dx' fs', V.ref a = .ref a' ∧ H a' = some (.ins C' dx' fs') ∧ Cls K C' ∧ NoAttr K C' f ∧ fs'.length < 1000 ∧ R (upd H a' (.ins C' dx' (putF f v fs'))) := ⟨_, _, _, _, rfl, h, c, n, hl, q⟩
@[irreducible] def sp_Lease___init__ (K : PySem.W.Frag) : Sp := fun vs H Q E => ∃ (x dx : Addr) (l : LeaseS), vs = [.ref x, .int (l.num : Int), .int (l.work : Int), .int (l.step : Int), .str l.worker, .int l.til] ∧ H x = some (.ins (cE K) dx []) ∧ Q .non (upd H x (.ins (cE K) dx (leaseFs ⟨l, x, dx⟩)))
theorem sc_Lease___init__ : FnScope ["self", "number", "job", "step", "worker", "until"] ["self", "number", "job", "step", "worker", "until"] (defScope s_Lease___init__) := ⟨rfl, rfl, rfl, by decide +kernel, rfl, by decide +kernel, by decide +kernel⟩
theorem Tp.ok_Lease___init__ (T : Tp P w K mg base) : FnR P w K mg base (L2.CX P w) (0 + 1) (He.ma K (He.ga K "Lease") "__init__") (sp_Lease___init__ K) := by
  refine fnr (N := ["self", "number", "job", "step", "worker", "until"]) (ps := ["self", "number", "job", "step", "worker", "until"]) (k := 0) T.fd_Lease___init__ sc_Lease___init__ (fun _ _ _ _ _ _ us hl => match us, hl with | [_, _, _, _, _, _], _ => rfl) (fun vs H Q E h => ?_) fun cdv A outer s H vs Q E hr h => ?_
  · unfold sp_Lease___init__ at h
    obtain ⟨_, _, _, rfl, _⟩ := h
    rfl
  unfold sp_Lease___init__ at h
  obtain ⟨x, dx, l, rfl, hx, q⟩ := h
  refine ⟨_, (pss_cons (ps_fld (pv 0) (pv 1) rfl)
      (pss_cons (ps_fld (pv 0) (pv 2) rfl)
      (pss_cons (ps_fld (pv 0) (pv 3) rfl)
      (pss_cons (ps_fld (pv 0) (pv 4) rfl)
      (pss_one (ps_fld (pv 0) (pv 5) rfl)))))), ?_⟩
  refine ⟨_, rfl, _, rfl, w0 hx T.c_Lease T.n_Lease_number (Nat.le_of_ble_eq_true (by kernel_rfl)) ?_⟩
  refine ⟨_, rfl, _, rfl, w0 upd_same T.c_Lease T.n_Lease_work (Nat.le_of_ble_eq_true (by kernel_rfl)) ?_⟩
  refine ⟨_, rfl, _, rfl, w0 upd_same T.c_Lease T.n_Lease_step (Nat.le_of_ble_eq_true (by kernel_rfl)) ?_⟩
  refine ⟨_, rfl, _, rfl, w0 upd_same T.c_Lease T.n_Lease_worker (Nat.le_of_ble_eq_true (by kernel_rfl)) ?_⟩
  refine ⟨_, rfl, _, rfl, w0 upd_same T.c_Lease T.n_Lease_until (Nat.le_of_ble_eq_true (by kernel_rfl)) ?_⟩
  simp only [upd_upd]
  have e : putF ("until" : Str) (V.int l.til) (putF ("worker" : Str) (V.str l.worker) (putF ("step" : Str) (V.int (l.step : Int)) (putF ("work" : Str) (V.int (l.work : Int)) (putF ("number" : Str) (V.int (l.num : Int)) [])))) = leaseFs ⟨l, x, dx⟩ := by kernel_rfl
  rw [e]
  exact q
end LH
end

section
set_option Elab.async false
set_option linter.all false
set_option maxRecDepth 100000
set_option maxHeartbeats 4000000
namespace LH
open PySem PySem.Spec PyProof.Rows L2 StX LamX
variable {P : Program} {w : World} {K : PySem.W.Frag} {mg : Str → Option Value} {base : Heap}
theorem begun_ok {G : HG} {k : Str} {r : RowS} {t : Int} {H : Hp} {Q : VK} {E : XK} (hg : HouseAt K H G) (nd : (G.er.rows.map (·.kind)).Nodup) (hr' : G.er.row k = some r) (hz : r.ticks.length < sizeLine)
    (q : ∀ H' G', Stp K H G H' G' → G'.er = (G.er.rowUp k fun r => { r with cnt := r.cnt + 1, ticks := r.ticks ++ [t] }) → G'.cnt = G.cnt → G'.jobs = G.jobs → Q .non H') : sp_Limits_begun K [.ref G.lim, .str k, .int t] H Q E := by
  unfold sp_Limits_begun
  exact ⟨G, k, r, t, rfl, hg, nd, hr', hz, q⟩
theorem note_ok {G : HG} {v : V} {H : Hp} {Q : VK} {E : XK} (hg : HouseAt K H G) (hl : G.log.length < sizeLine) (q : Q .non (upd H G.el (.lst (G.log.map (·.1) ++ [v])))) : sp_House_note K [.ref G.p, v] H Q E := by
  unfold sp_House_note
  exact ⟨G, v, rfl, hg, hl, q⟩
theorem worker_ok {G : HG} {k : Str} {s : StaffG} {H : Hp} {Q : VK} {E : XK} (hg : HouseAt K H G) (hk : isName k = true) (hs : (G.staff.find? fun l => decide (l.name = k)) = some s) (q : ∀ H', Same H H' → Q .non H') : sp_House_need_worker K [.ref G.p, .str k] H Q E := by
  unfold sp_House_need_worker
  exact ⟨G, k, s, rfl, hg, hk, hs, q⟩
theorem order_ok {G : HG} {H : Hp} {Q : VK} {E : XK} (hg : HouseAt K H G) (ok : HouseOk G.er) (ha : G.age ≤ 1000000) (tb : Tabs (TT K) H) (q : ∀ H' t, Stp K H G H' G → t ∉ adr G → H' t = some (.lst (vnats G.er.order)) → Q (.ref t) H') : sp_House_order K [.ref G.p] H Q E := by
  unfold sp_House_order
  exact ⟨G, rfl, hg, ok, ha, tb, q⟩
theorem hind_ok {G : HG} {x : Str} {n : Nat} {g : JobG} {r : RowS} {z : StaffG} {H : Hp} {Q : VK} {E : XK} (hg : HouseAt K H G) (hn : G.jobs[n]? = some g) (hs : g.steps ≠ []) (nd : (G.er.rows.map (·.kind)).Nodup) (hr' : G.er.row g.kind = some r) (hz : r.ticks.length < sizeLine)
    (hw : (G.staff.find? fun l => decide (l.name = x)) = some z) (hl : G.cnt.length < sizeLine) (q : ∀ H' G', Stp K H G H' G' → G'.er = (G.er.hindrance x g.toJobS).2 → Q (optS (G.er.hindrance x g.toJobS).1) H') : sp_House_hindrance K [.ref G.p, .str x, .ref g.a] H Q E := by
  unfold sp_House_hindrance
  exact ⟨G, x, n, g, r, z, rfl, hg, hn, hs, nd, hr', hz, hw, hl, q⟩
theorem newLease_ok {x dx : Addr} {l : LeaseS} {H : Hp} {Q : VK} {E : XK} (hx : H x = some (.ins (cE K) dx [])) (q : Q .non (upd H x (.ins (cE K) dx (leaseFs ⟨l, x, dx⟩)))) :
    sp_Lease___init__ K [.ref x, .int (l.num : Int), .int (l.work : Int), .int (l.step : Int), .str l.worker, .int l.til] H Q E := by
  unfold sp_Lease___init__
  exact ⟨x, dx, l, rfl, hx, q⟩
theorem put_cnt {l : List LeaseG} {n : Nat} {v : V} (h : ∀ o ∈ l, o.num ≠ n) : putK (cntD l) (Sum.inl (n : Int)) v = cntD l ++ [(Sum.inl (n : Int), v)] := by
  unfold putK
  rw [if_neg]
  unfold cntD
  rw [List.any_map, List.any_eq_true]
  rintro ⟨o, ho, e⟩
  exact h o ho (by simpa [Int.ofNat_inj] using e)
/-- a new lease counts -/
theorem stp_putC {H0 H : Hp} {G0 G : HG} {l : LeaseG} (s0 : Stp K H0 G0 H G) (hn0 : H0 l.a = none) (hl : LeaseAt K H l) (hn : l.a ∉ adr G) : Stp K H0 G0 (upd H G.cd (.dK (cntD (G.cnt ++ [l])))) { G with cnt := G.cnt ++ [l] } := by
  refine ⟨s0.at_.putC hl hn, ⟨fun b o e nt na => ?_, fun tb => tabs_upd s0.at_.cd trivial (s0.fr.tabs tb)⟩, s0.base, s0.jobs⟩
  obtain ⟨h1, h2⟩ := s0.fr.keep b o e nt na
  have hb : b ≠ G.cd := fun z => h2 (by rw [z]; exact b0 (i := 4))
  refine ⟨(upd_ne hb).trans h1, fun z => ?_⟩
  unfold adr at z h2
  simp only [List.mem_append] at z h2
  rcases z with z | z | z | z | z
  · exact h2 (.inl z)
  · exact h2 (.inr (.inl z))
  · exact h2 (.inr (.inr (.inl z)))
  · unfold pa3 at z
    rw [List.map_append, List.mem_append] at z
    rcases z with z | z
    · exact h2 (.inr (.inr (.inr (.inl z))))
    · have : b = l.a := by simpa using z
      rw [this, hn0] at e
      cases e
  · exact h2 (.inr (.inr (.inr (.inr z))))
/-! ### HouseOk stays -/
theorem find_none_map {α : Type} (f : α → α) (p : α → Bool) (l : List α) (h : ∀ a, p (f a) = p a) : ((l.map f).find? p) = (l.find? p).map f := by
  rw [find_map]
  congr 2
  funext a
  exact h a
theorem HouseOk.rowUp {h : HouseS} (ok : HouseOk h) (k : Str) (f : RowS → RowS) (hk : ∀ r, (f r).kind = r.kind) (ht : ∀ r ∈ h.rows, r.kind = k → (f r).ticks.length ≤ 1000000) : HouseOk (h.rowUp k f) := by
  have hr : ∀ s r, h.row s = some r → ∃ r', (h.rowUp k f).row s = some r' := fun s r e => by
    rw [row_up h k s f hk, e]
    split <;> exact ⟨_, rfl⟩
  refine ⟨?_, fun i j e => ?_, ok.cnt, ok.nums, ok.held, ok.staff, ok.pause, ok.needy, ⟨ok.sizes.1, ok.sizes.2.1, ok.sizes.2.2.1, ok.sizes.2.2.2.1, ok.sizes.2.2.2.2.1, ?_, ?_⟩, ok.alive, fun c hc => ?_, ok.pot⟩
  · have e : (h.rowUp k f).rows.map (·.kind) = h.rows.map (·.kind) := by
      unfold HouseS.rowUp
      rw [List.map_map]
      apply List.map_congr_left
      intro r _
      show (if r.kind = k then f r else r).kind = r.kind
      split
      · exact hk r
      · rfl
    rw [e]
    exact ok.rows
  · obtain ⟨a, b, c⟩ := ok.jobs i j e
    exact ⟨a, fun s hs => by obtain ⟨r, er⟩ := b s hs; exact hr s r er, c⟩
  · have := ok.sizes.2.2.2.2.2.1
    unfold HouseS.rowUp
    simpa using this
  · intro r hr'
    unfold HouseS.rowUp at hr'
    obtain ⟨q, hq, rfl⟩ := List.mem_map.mp hr'
    by_cases z : q.kind = k
    · rw [if_pos z]
      exact ht q hq z
    · rw [if_neg z]
      exact ok.sizes.2.2.2.2.2.2 q hq
  · obtain ⟨a, b, d⟩ := ok.clks c hc
    exact ⟨a, fun s hs => by obtain ⟨r, er⟩ := b s hs; exact hr s r er, d⟩
theorem HouseOk.lately {h : HouseS} (ok : HouseOk h) (k : Str) : HouseOk (h.lately k).2 := by
  unfold HouseS.lately
  cases e : h.row k with
  | none => exact ok
  | some r =>
    refine ok.rowUp k _ (fun _ => rfl) fun q hq _ => ?_
    have h1 := ok.sizes.2.2.2.2.2.2 q hq
    have h2 := List.length_filter_le (fun o => decide (o > h.here - 10)) q.ticks
    show (q.ticks.filter fun o => decide (o > h.here - 10)).length ≤ _
    omega
theorem HouseOk.hind {h : HouseS} (ok : HouseOk h) (x : Str) (j : JobS) : HouseOk (h.hindrance x j).2 := by
  unfold HouseS.hindrance
  cases e : h.row j.kind with
  | none => exact ok
  | some r =>
    simp only
    split
    · exact ok
    · split
      · exact ok
      · split <;> exact ok.lately _
theorem hind_rest {h : HouseS} (x : Str) (j : JobS) : (h.hindrance x j).2 = { h with rows := (h.hindrance x j).2.rows } := by
  unfold HouseS.hindrance
  cases e : h.row j.kind with
  | none => rfl
  | some r =>
    have hl : (h.lately j.kind).2 = { h with rows := (h.lately j.kind).2.rows } := by
      unfold HouseS.lately
      rw [e]
      rfl
    simp only
    split
    · rfl
    · split
      · rfl
      · split <;> exact hl
end LH
end

section
set_option Elab.async false
set_option linter.all false
set_option maxRecDepth 100000
set_option maxHeartbeats 4000000
set_option pp.maxSteps 1500
namespace LH
open PySem PySem.Spec PyProof.Rows L2 StX LamX
variable {P : Program} {w : World} {K : PySem.W.Frag} {mg : Str → Option Value} {base : Heap}
theorem nlt : (1000000 : Nat) < sizeLine := by decide
theorem er_cnt_len (G : HG) : G.er.cnt.length = G.cnt.length := by simp [HG.er]
theorem er_log_len (G : HG) : G.er.log.length = G.log.length := by simp [HG.er]
theorem er_note {G : HG} {v : V} {d : PyData} : HG.er { G with log := G.log ++ [(v, d)] } = G.er.note d := by
  unfold HG.er HouseS.note
  simp
theorem er_setJ {G : HG} {n : Nat} {g : JobG} {j : JobS} {f : JobS → JobS} (hi : G.jobs[n]? = some g) (e : f g.toJobS = j) : HG.er { G with jobs := G.jobs.set n (g.W j) } = G.er.jobUp n f := by
  unfold HouseS.jobUp
  rw [er_job, hi]
  show _ = { G.er with jobs := G.er.jobs.set n (f g.toJobS) }
  rw [e]
  unfold HG.er
  simp only [List.map_set]
  rfl
theorem er_addC {G : HG} {l : LeaseG} {n : Nat} : HG.er { G with given := n, cnt := G.cnt ++ [l] } = { G.er with given := n, cnt := G.er.cnt ++ [l.toLeaseS] } := by
  unfold HG.er
  simp
theorem kind_mem {j : JobS} (h : j.steps ≠ []) : j.kind ∈ j.steps := by
  have hl : 0 < j.steps.length := List.length_pos_iff.mpr h
  unfold JobS.kind
  have hlt : min j.fin (j.steps.length - 1) < j.steps.length := by omega
  rw [List.getD, List.getElem?_eq_getElem hlt]
  exact List.getElem_mem hlt
theorem staff_of {G Gi : HG} {x : Str} {z : StaffG} (h : Gi.er.staff = G.er.staff) (hz : (G.staff.find? fun l => decide (l.name = x)) = some z) : ∃ y, (Gi.staff.find? fun l => decide (l.name = x)) = some y := by
  have e1 : (G.er.staff.find? fun s => decide (s.1 = x)) = some (z.name, z.kinds) := by
    unfold HG.er
    simp only
    rw [find_map, hz]
    rfl
  rw [← h] at e1
  unfold HG.er at e1
  simp only at e1
  rw [find_map] at e1
  cases ez : Gi.staff.find? fun l => decide (l.name = x) with
  | none => rw [ez] at e1; cases e1
  | some y => exact ⟨y, rfl⟩
theorem row_ticks {h : HouseS} (ok : HouseOk h) {k : Str} {r : RowS} (e : h.row k = some r) : r.ticks.length < sizeLine := by
  have h1 := ok.sizes.2.2.2.2.2.2 r (List.mem_of_find?_eq_some e)
  have := nlt
  omega
@[irreducible] def sp_House_take (K : PySem.W.Frag) : Sp := fun vs H Q E => ∃ (G : HG) (x : Str) (z : StaffG), vs = [.ref G.p, .str x] ∧ HouseAt K H G ∧ HouseOk G.er ∧ G.age ≤ 1000000 ∧ Tabs (TT K) H ∧ isName x = true ∧ (G.staff.find? fun l => decide (l.name = x)) = some z ∧ G.cnt.length < 1000000 ∧ G.log.length < 1000000 ∧
  ∀ H' G' v, Stp K H G H' G' → G'.er = (G.er.take x).2 → Dt K H' v (G.er.take x).1 → Q v H'
theorem sc_House_take : FnScope ["self", "worker", "number", "job", "lease"] ["self", "worker"] (defScope s_House_take) := ⟨rfl, rfl, rfl, by decide +kernel, rfl, by decide +kernel, by decide +kernel⟩
theorem Tp.ok_House_take (T : Tp P w K mg base) : FnR P w K mg base (L2.CX P w) (10 + 1) (He.ma K (He.ga K "House") "take") (sp_House_take K) := by
  refine fnr (N := ["self", "worker", "number", "job", "lease"]) (ps := ["self", "worker"]) (k := 10) T.fd_House_take sc_House_take (fun _ _ _ _ _ _ us hl => match us, hl with | [_, _], _ => rfl) (fun vs H Q E h => ?_) fun cdv A outer s H vs Q E hr h => ?_
  · unfold sp_House_take at h
    obtain ⟨_, _, _, rfl, _⟩ := h
    rfl
  unfold sp_House_take at h
  obtain ⟨G, x, z, rfl, hg, ok, ha, tb, hx, hz, hc, hl, q⟩ := h
  refine ⟨_, (pss_cons (ps_expr (pe_methR (pv 0) T.c_House T.m_House_need_worker T.ok_House_need_worker (rm hr) passE (pa_cons (pv 1) pa_nil)))
      (pss_cons (ps_for passOwnE rfl (pi_list (pe_methR0 (pv 0) T.c_House T.m_House_order T.ok_House_order (rm hr) passE)) (pg_name (i := 2) sc_House_take.nd rfl (by first | exact .inl rfl | exact .inr rfl)) (pss_cons (ps_set (i := 3) sc_House_take.nd rfl (by first | exact .inl rfl | exact .inr rfl) (pe_ix ix_list (pe_fld (pv 0) rfl) (pv 2) (fun _ _ => rfl)))
      (pss_one (ps_if (pt_cmpR op_isN (pe_methR (pv 0) T.c_House T.m_House_hindrance T.ok_House_hindrance (rm hr) passE (pa_cons (pv 1) (pa_cons (pv 3) pa_nil))) pe_non (nomark _)) (pss_cons (ps_set (i := 4) sc_House_take.nd rfl (by first | exact .inl rfl | exact .inr rfl) (pe_makeR T.mk_Lease T.ok_Lease___init__ (rm hr) rfl T.g_Lease passE (pa_cons (pe_fld (pv 0) rfl) (pa_cons (pv 2) (pa_cons (pe_fld (pv 3) rfl) (pa_cons (pv 1) (pa_cons (pe_op op_add (pe_fld (pv 0) rfl) (pe_fld (pv 0) rfl)) pa_nil)))))))
      (pss_cons (ps_fldaug (pv 0) pe_int in_add)
      (pss_cons (ps_dput (hu_of hr) (pe_fld (pv 0) rfl) (pe_fld (pv 4) rfl) (pv 4) rfl)
      (pss_cons (ps_expr (pe_methR (pe_fld (pv 0) rfl) T.c_Limits T.m_Limits_begun T.ok_Limits_begun (rm hr) passE (pa_cons (pe_methR0 (pv 3) T.c_Job T.m_Job_kind T.ok_Job_kind (rm hr) passE) (pa_cons (pe_fld (pv 0) rfl) pa_nil))))
      (pss_cons (ps_fld (pv 3) (pe_fld (pv 4) rfl) rfl)
      (pss_cons (ps_expr (pe_methR (pv 0) T.c_House T.m_House_note T.ok_House_note (rm hr) passE (pa_cons (pe_tup (pa_cons pe_str (pa_cons (pv 1) (pa_cons (pv 2) (pa_cons (pe_fld (pv 3) rfl) (pa_cons (pe_fld (pv 4) rfl) pa_nil)))))) pa_nil)))
      (pss_one (ps_ret (pe_tup (pa_cons (pv 2) (pa_cons (pe_fld (pv 4) rfl) (pa_cons (pe_fld (pv 4) rfl) (pa_cons (pe_fld (pv 4) rfl) pa_nil))))))))))))) pss_nil))))
      (pss_one (ps_ret pe_non)))), ?_⟩
  refine ⟨_, rfl, hm hg (by kernel_rfl) ⟨_, rfl, worker_ok hg hx hz fun H1 s1 => ?_⟩⟩
  have hg1 := hg.same s1
  have st1 := Stp.same hg s1
  refine ⟨_, rfl, hm hg1 (by kernel_rfl) (order_ok hg1 ok ha (st1.fr.tabs tb) fun H2 t st2 nt et => ?_)⟩
  have st3 := st1.trans st2
  have orng : ∀ n ∈ G.er.order, ∃ g, G.jobs[n]? = some g := fun n hn => by
    rw [HouseS.order_eq] at hn
    have h1 := (List.mem_mergeSort).mp hn
    unfold HouseS.ready at h1
    have hlt := List.mem_range.mp (List.mem_filter.mp h1).1
    rw [er_len] at hlt
    exact ⟨_, List.getElem?_eq_getElem hlt⟩
  refine ⟨t, rfl, ⟨_, SqL.of et⟩, for_list (xs := vnats G.er.order) (fun i σ H' => ∃ (a b c : Option V) (Gi : HG), σ = [some (.ref G.p), some (.str x), a, b, c] ∧ Stp K H G H' Gi ∧ H' t = some (.lst (vnats G.er.order)) ∧ t ∉ adr Gi ∧ HouseOk Gi.er ∧
    HouseS.takeIn x (G.er.order.drop i) Gi.er = G.er.take x ∧ Gi.er = { G.er with rows := Gi.er.rows }) ?_ ?_ ?_ ?_⟩
  · exact ⟨_, _, _, G, rfl, st3, et, nt, ok, rfl, rfl⟩
  · rintro i σ H' _ ⟨_, _, _, _, rfl, _, e, _⟩
    exact SqL.of e
  · rintro i v σ H3 ev ⟨a, b, c, Gi, rfl, st, ei, ni, oki, et, er⟩
    obtain ⟨n, en, rfl⟩ : ∃ n, G.er.order[i]? = some n ∧ V.int (n : Nat) = v := by
      unfold vnats at ev
      rw [List.getElem?_map] at ev
      cases e : G.er.order[i]? with
      | none => rw [e] at ev; cases ev
      | some n => rw [e] at ev; exact ⟨n, rfl, Option.some.inj ev⟩
    obtain ⟨g0, eg0⟩ := orng n (List.mem_of_getElem? en)
    have hi := st.at_
    have ej : Gi.er.jobs[n]? = some g0.toJobS := by
      have : Gi.er.jobs = G.er.jobs := by rw [er]
      rw [this, er_job, eg0]
      rfl
    obtain ⟨gi, egi, ejs⟩ := er_job' ej
    obtain ⟨o1, o2, _⟩ := ok_job oki egi
    obtain ⟨r, er'⟩ := o2 _ (kind_mem o1)
    obtain ⟨zi, ezi⟩ := staff_of (Gi := Gi) (by rw [er]) hz
    have hcl : Gi.cnt.length = G.cnt.length := by rw [← er_cnt_len, ← er_cnt_len, er]
    have hll : Gi.log.length = G.log.length := by rw [← er_log_len, ← er_log_len, er]
    have hn1 := nlt
    rw [← st.p]
    refine ⟨_, rfl, T.hr_jobs hi ⟨_, rfl, _, _, _, _, rfl, rfl, SqL.of hi.jl, atI_nat (refs_at egi), ?_⟩⟩
    refine ⟨_, rfl, hm hi (by kernel_rfl) ⟨_, rfl, _, rfl, hind_ok hi egi o1 oki.rows er' (row_ticks oki er') ezi (by omega) fun H4 G4 st4 e4 => ⟨rfl, _, rfl, ?_⟩⟩⟩
    have hstep : HouseS.takeIn x (G.er.order.drop i) Gi.er = if (Gi.er.hindrance x gi.toJobS).1 = none then (.tuple [N' n, N' gi.fin, N' Gi.er.given, I' (Gi.er.here + Gi.er.hold)], (Gi.er.hindrance x gi.toJobS).2.takeOne x n gi.toJobS) else HouseS.takeIn x (G.er.order.drop (i + 1)) (Gi.er.hindrance x gi.toJobS).2 := by
      obtain ⟨hlt, he⟩ := List.getElem?_eq_some_iff.mp en
      rw [List.drop_eq_getElem_cons hlt, he]
      show (match Gi.er.jobs[n]? with | none => _ | some j => _) = _
      rw [ej, ← ejs]
    have st5 := st.trans st4
    rw [optS_non]
    by_cases hN : (Gi.er.hindrance x gi.toJobS).1 = none
    · rw [if_pos hN] at hstep
      refine dT hN ?_
      have hg4 := st4.at_
      have ok4 : HouseOk G4.er := by rw [e4]; exact oki.hind _ _
      obtain ⟨g4, eg4, a4⟩ := st4.jobs n gi egi
      have es4 : g4.toJobS = gi.toJobS := by
        have h1 : G4.er.jobs[n]? = some g4.toJobS := by rw [er_job, eg4]; rfl
        rw [e4, hind_rest] at h1
        have h2 : Gi.er.jobs[n]? = some g4.toJobS := h1
        rw [ej, ← ejs] at h2
        exact (Option.some.inj h2).symm
      have o4 : g4.steps ≠ [] := by rw [es4]; exact o1
      have hj4 := hg4.jobs g4 (job_mem eg4)
      rw [← a4, ← st4.p]
      refine ⟨_, rfl, T.hr_given hg4 ⟨_, rfl, _, rfl, T.jr_done_steps hj4 ⟨_, rfl, _, rfl, T.hr_here hg4 ⟨_, rfl, T.hr_hold hg4 ⟨_, _, rfl, rfl, fun y dy hy hdy hne => ?_⟩⟩⟩⟩⟩
      refine newLease_ok (l := ⟨G4.given, n, g4.fin, x, G4.here + G4.hold⟩) upd_same ⟨rfl, ?_⟩
      rw [upd_upd]
      have sb : Same H4 (upd (upd H4 dy (.own y)) y (.ins (cE K) dy (leaseFs ⟨⟨G4.given, n, g4.fin, x, G4.here + G4.hold⟩, y, dy⟩))) := Same.trans' (same_new hdy) (same_new (by rw [upd_ne hne.symm]; exact hy))
      have hle : LeaseAt K (upd (upd H4 dy (.own y)) y (.ins (cE K) dy (leaseFs ⟨⟨G4.given, n, g4.fin, x, G4.here + G4.hold⟩, y, dy⟩))) ⟨⟨G4.given, n, g4.fin, x, G4.here + G4.hold⟩, y, dy⟩ := ⟨upd_same⟩
      generalize upd (upd H4 dy (.own y)) y (.ins (cE K) dy (leaseFs ⟨⟨G4.given, n, g4.fin, x, G4.here + G4.hold⟩, y, dy⟩)) = Hb at sb hle ⊢
      have hgb := hg4.same sb
      have hyo := hg4.outN hy
      refine ⟨_, rfl, T.ha_given hgb ⟨_, _, rfl, rfl, hp_given hgb (G4.given + 1) rfl ?_⟩⟩
      have sc := (Stp.same hg4 sb).trans (stp_putP hgb (G' := { G4 with given := G4.given + 1 }) rfl)
      have hyp : y ≠ G4.p := fun z => hyo (by rw [z]; exact b0 (i := 0))
      have hlc : LeaseAt K (upd Hb G4.p (.ins (cH K) G4.dx (houseFs { G4 with given := G4.given + 1 }))) ⟨⟨G4.given, n, g4.fin, x, G4.here + G4.hold⟩, y, dy⟩ := ⟨(upd_ne hyp).trans hle.ob⟩
      generalize upd Hb G4.p (.ins (cH K) G4.dx (houseFs { G4 with given := G4.given + 1 })) = Hc at sc hlc ⊢
      have hgc := sc.at_
      have c4 : G4.cnt.length < 1000000 := by rw [← er_cnt_len, e4, hind_rest]; rw [er_cnt_len]; omega
      have nums : ∀ o ∈ G4.cnt, o.num ≠ G4.given := fun o ho e => by
        have h1 := (ok4.cnt o.toLeaseS (List.mem_map.mpr ⟨o, ho, rfl⟩)).1
        rw [e] at h1
        exact Nat.lt_irrefl _ h1
      have hcl : (cntD G4.cnt).length < sizeLine := by
        simp only [cntD, List.length_map]
        omega
      refine ⟨_, rfl, _, rfl, T.hr_counting hgc ⟨_, rfl, T.er_number hlc ⟨_, _, rfl, DPut.k (k := Sum.inl (G4.given : Int)) hgc.cd hcl, ?_⟩⟩⟩
      rw [put_cnt nums]
      have sd := stp_putC sc hy hlc hyo
      rw [show cntD G4.cnt ++ [((Sum.inl (G4.given : Int) : Key), V.ref y)] = cntD (G4.cnt ++ [⟨⟨G4.given, n, g4.fin, x, G4.here + G4.hold⟩, y, dy⟩]) by simp [cntD]]
      change _ at sd
      generalize eHd : upd Hc G4.cd (.dK (cntD (G4.cnt ++ [⟨⟨G4.given, n, g4.fin, x, G4.here + G4.hold⟩, y, dy⟩]))) = Hd at sd ⊢
      have hgd := sd.at_
      have hjd := hgd.jobs g4 (job_mem (G := G4) eg4)
      obtain ⟨r4, er4⟩ := (ok_job ok4 eg4).2.1 _ (kind_mem o4)
      refine ⟨_, rfl, T.hr_limits hgd (mm hgd (by kernel_rfl) ⟨_, rfl, jm hjd (by kernel_rfl) (jkind_ok hjd o4 ⟨_, rfl, T.hr_here hgd (begun_ok hgd ok4.rows er4 (row_ticks ok4 er4) fun H6 G6 st6 e6 ec6 ej6 => ?_)⟩)⟩)⟩
      have hg6 := st6.at_
      have eg6 : G6.jobs[n]? = some g4 := by rw [ej6]; exact eg4
      have hj6 := hg6.jobs g4 (job_mem eg6)
      have hle6 : LeaseAt K H6 ⟨⟨G4.given, n, g4.fin, x, G4.here + G4.hold⟩, y, dy⟩ := hg6.cnt _ (by rw [ec6]; simp)
      have p6 : G6.p = G4.p := st6.p
      refine ⟨_, rfl, T.er_number hle6 ⟨_, rfl, T.jw_held hj6 (some G4.given) ?_⟩⟩
      have s7 := stp_setJ hg6 eg6 (j := { g4.toJobS with held := some G4.given }) rfl rfl
      have hg7 := s7.at_
      have hle7 : LeaseAt K _ _ := hg7.cnt ⟨⟨G4.given, n, g4.fin, x, G4.here + G4.hold⟩, y, dy⟩ (by show _ ∈ G6.cnt; rw [ec6]; simp)
      have eg7 : (G6.jobs.set n (g4.W { g4.toJobS with held := some G4.given }))[n]? = some (g4.W { g4.toJobS with held := some G4.given }) := List.getElem?_set_self (List.getElem?_eq_some_iff.mp eg6).1
      have hj7 := hg7.jobs _ (List.mem_of_getElem? eg7)
      generalize upd H6 g4.a (.ins (cJ K) g4.dx (jobFs (g4.W { g4.toJobS with held := some G4.given }))) = H7 at s7 hg7 hle7 hj7 ⊢
      rw [← p6]
      refine ⟨_, rfl, hm hg7 (by kernel_rfl) ⟨_, rfl, _, rfl, _, rfl, T.jr_done_steps hj7 ⟨_, rfl, T.er_number hle7 ⟨by show 5 ≤ sizeLine; decide, fun u hu => ?_⟩⟩⟩⟩
      have s8 := Stp.same hg7 (same_new (o := .tup [.str (Str.ofString "take"), .str x, .int (n : Nat), .int (g4.fin : Int), .int (G4.given : Int)]) hu)
      have hg8 := s8.at_
      have dt8 : Dt K (upd H7 u (.tup [.str (Str.ofString "take"), .str x, .int (n : Nat), .int (g4.fin : Int), .int (G4.given : Int)])) (.ref u) (.tuple [S' "take", .str x, N' n, N' g4.fin, N' G4.given]) :=
        .tup (SqT.of upd_same) (.cons (.str _) (.cons (.str _) (.cons (.int _) (.cons (.int _) (.cons (.int _) .nil)))))
      have hle8 : LeaseAt K (upd H7 u (.tup [.str (Str.ofString "take"), .str x, .int (n : Nat), .int (g4.fin : Int), .int (G4.given : Int)])) ⟨⟨G4.given, n, g4.fin, x, G4.here + G4.hold⟩, y, dy⟩ := ⟨same_new hu _ _ hle7.ob⟩
      have ll : G6.log.length < sizeLine := by
        rw [← er_log_len, e6]
        show G4.er.log.length < sizeLine
        rw [e4, hind_rest]
        show Gi.er.log.length < sizeLine
        rw [er_log_len]
        omega
      refine note_ok (G := { G6 with jobs := G6.jobs.set n (g4.W { g4.toJobS with held := some G4.given }) }) hg8 ll ?_
      have s9 := stp_putE hg8 dt8
      have m9 : (⟨⟨G4.given, n, g4.fin, x, G4.here + G4.hold⟩, y, dy⟩ : LeaseG) ∈ G6.cnt := by rw [ec6]; simp
      have hle9 : LeaseAt K (upd (upd H7 u (.tup [.str (Str.ofString "take"), .str x, .int (n : Nat), .int (g4.fin : Int), .int (G4.given : Int)])) G6.el (.lst (G6.log.map (·.1) ++ [.ref u]))) ⟨⟨G4.given, n, g4.fin, x, G4.here + G4.hold⟩, y, dy⟩ := s9.at_.cnt _ m9
      refine ⟨_, rfl, _, rfl, T.er_step hle9 ⟨_, rfl, T.er_number hle9 ⟨_, rfl, T.er_until hle9 ⟨by show 4 ≤ sizeLine; decide, fun v hv => ?_⟩⟩⟩⟩
      refine q _ _ (.ref v) (st5.trans (sd.trans (st6.trans (s7.trans (s8.trans (s9.trans (Stp.same s9.at_ (same_new hv)))))))) ?_ ?_
      · rw [er_note, er_setJ (g := g4) (f := fun j => { j with held := some G4.given }) eg6 rfl, e6]
        have h1 := hstep.symm.trans et
        rw [← h1, ← e4, ← es4]
        unfold HouseS.takeOne
        rw [er_addC]
        rfl
      · have h1 := hstep.symm.trans et
        rw [← h1]
        have g1 : Gi.er.given = G4.given := by
          show _ = G4.er.given
          rw [e4, hind_rest]
        have g2 : Gi.er.here + Gi.er.hold = G4.here + G4.hold := by
          show _ = G4.er.here + G4.er.hold
          rw [e4, hind_rest]
        rw [g1, g2, ← es4]
        exact .tup (SqT.of upd_same) (.cons (.int _) (.cons (.int _) (.cons (.int _) (.cons (.int _) .nil))))
    · rw [if_neg hN] at hstep
      have hk := st4.fr.keep t _ ei (fun _ z => nomatch z) ni
      refine dF hN ⟨_, _, _, G4, rfl, st5, hk.1, hk.2, by rw [e4]; exact oki.hind _ _, ?_, ?_⟩
      · rw [e4, ← hstep, et]
      · rw [e4, hind_rest, er]
  · rintro σ H' ⟨_, _, _, Gi, rfl, st, _, _, _, et, _⟩
    rw [show (vnats G.er.order).length = G.er.order.length by simp [vnats], List.drop_length] at et
    have e1 : G.er.take x = (.none, Gi.er) := et.symm
    refine q H' Gi .non st (by rw [e1]) (by rw [e1]; exact .non)
end LH
end

section
set_option Elab.async false
set_option linter.all false
set_option maxRecDepth 100000
set_option maxHeartbeats 4000000
set_option pp.maxSteps 1500
namespace LH
open PySem PySem.Spec PyProof.Rows L2 StX LamX
variable {P : Program} {w : World} {K : PySem.W.Frag} {mg : Str → Option Value} {base : Heap}
theorem lease_ok {G : HG} {n : Nat} {H : Hp} {Q : VK} {E : XK} (hg : HouseAt K H G) (hn : n < G.given) (q : Q (((G.cnt.find? fun l => decide (l.num = n)).map fun r => V.ref r.a).getD .non) H) : sp_House_lease K [.ref G.p, .int (n : Int)] H Q E := by
  unfold sp_House_lease
  exact ⟨G, n, rfl, hg, hn, q⟩
theorem closed_ok {G : HG} {l : LeaseG} {g : JobG} {r : RowS} {H : Hp} {Q : VK} {E : XK} (hg : HouseAt K H G) (hl : l ∈ G.cnt) (hw : G.jobs[l.work]? = some g) (hs : g.steps ≠ []) (nd : (G.er.rows.map (·.kind)).Nodup) (nn : (G.er.cnt.map (·.num)).Nodup) (hr' : G.er.row g.kind = some r)
    (q : ∀ H' G', Stp K H G H' G' → G'.er = G.er.closed l.toLeaseS → LeaseAt K H' l → l.a ∉ adr G' → G'.jobs = G.jobs → G'.cnt = (G.cnt.filter fun o => decide (o.num ≠ l.num)) → Q (.ref g.a) H') : sp_House_closed K [.ref G.p, .ref l.a] H Q E := by
  unfold sp_House_closed
  exact ⟨G, l, g, r, rfl, hg, hl, hw, hs, nd, nn, hr', q⟩
theorem failed_ok {g : JobG} {tick pause : Int} {H : Hp} {Q : VK} {E : XK} (hj : JobAt K H g) (hp : 0 ≤ pause ∧ pause ≤ 999) (ht : g.tries ≤ 900) (q : Q .non (upd H g.a (.ins (cJ K) g.dx (jobFs (g.W (g.stepFailed tick pause)))))) : sp_Job_step_failed K [.ref g.a, .int tick, .int pause] H Q E := by
  unfold sp_Job_step_failed
  exact ⟨g, tick, pause, rfl, hj, hp, ht, q⟩
theorem sdone_ok {g : JobG} {tick : Int} {H : Hp} {Q : VK} {E : XK} (hj : JobAt K H g) (q : Q (.bl (decide ((g.stepDone tick).ended = some tDone))) (upd H g.a (.ins (cJ K) g.dx (jobFs (g.W (g.stepDone tick)))))) : sp_Job_step_done K [.ref g.a, .int tick] H Q E := by
  unfold sp_Job_step_done
  exact ⟨g, tick, rfl, hj, q⟩
theorem letgo_ok {g : JobG} {tick : Int} {H : Hp} {Q : VK} {E : XK} (hj : JobAt K H g) (q : Q .non (upd H g.a (.ins (cJ K) g.dx (jobFs (g.W (g.letGo tick)))))) : sp_Job_let_go K [.ref g.a, .int tick] H Q E := by
  unfold sp_Job_let_go
  exact ⟨g, tick, rfl, hj, q⟩
theorem jagain_ok {g : JobG} {tick : Int} {H : Hp} {Q : VK} {E : XK} (hj : JobAt K H g) (q : Q .non (upd H g.a (.ins (cJ K) g.dx (jobFs (g.W (g.again tick)))))) : sp_Job_alive_again K [.ref g.a, .int tick] H Q E := by
  unfold sp_Job_alive_again
  exact ⟨g, tick, rfl, hj, q⟩
theorem job_ok {G : HG} {n : Nat} {g : JobG} {H : Hp} {Q : VK} {E : XK} (hg : HouseAt K H G) (hn : G.jobs[n]? = some g) (q : Q (.ref g.a) H) : sp_House_job K [.ref G.p, .int (n : Int)] H Q E := by
  unfold sp_House_job
  exact ⟨G, n, g, rfl, hg, hn, q⟩
theorem stepFailed_steps (j : JobS) (t p : Int) : (j.stepFailed t p).steps = j.steps ∧ (j.stepFailed t p).needs = j.needs := by
  unfold JobS.stepFailed
  split <;> exact ⟨rfl, rfl⟩
theorem closed_rest (h : HouseS) (l : LeaseS) : h.closed l = { h with rows := (h.closed l).rows, cnt := (h.closed l).cnt } := by
  unfold HouseS.closed
  split <;> rfl
theorem er_lease_some {G : HG} {n : Nat} {l : LeaseG} (h : (G.cnt.find? fun l => decide (l.num = n)) = some l) : G.er.lease n = some l.toLeaseS := by rw [er_lease, h]; rfl
theorem er_lease_none {G : HG} {n : Nat} (h : (G.cnt.find? fun l => decide (l.num = n)) = none) : G.er.lease n = none := by rw [er_lease, h]; rfl
/-- what is known of a lease that counts -/
theorem lease_job {G : HG} (ok : HouseOk G.er) {l : LeaseG} (hl : l ∈ G.cnt) : ∃ (g : JobG) (r : RowS), G.jobs[l.work]? = some g ∧ g.held = some l.num ∧ g.steps ≠ [] ∧ G.er.row g.kind = some r ∧ g.tries ≤ 900 := by
  obtain ⟨_, j, ej, hh⟩ := ok.cnt l.toLeaseS (List.mem_map.mpr ⟨l, hl, rfl⟩)
  obtain ⟨g, eg, rfl⟩ := er_job' ej
  obtain ⟨o1, o2, _, _, _, o6⟩ := ok_job ok eg
  obtain ⟨r, er'⟩ := o2 _ (kind_mem o1)
  exact ⟨g, r, eg, hh, o1, er', o6⟩
/-- an entry is noted: the house behind it, its places and parts but the log as they were -/
theorem noted {G : HG} {v : V} {d : PyData} {H : Hp} {Q : VK} {E : XK} (hg : HouseAt K H G) (hd : Dt K H v d) (hl : G.log.length < 1000000)
    (q : ∀ H2 G2, Stp K H G H2 G2 → G2.er = G.er.note d → G2.p = G.p → G2.jobs = G.jobs → G2.cnt = G.cnt → G2.clks = G.clks → G2.staff = G.staff → G2.here = G.here → Q .non H2) : sp_House_note K [.ref G.p, v] H Q E :=
  note_ok hg (by have := nlt; omega) (q _ _ (stp_putE hg hd) er_note rfl rfl rfl rfl rfl rfl)
theorem HouseOk.note {h : HouseS} (ok : HouseOk h) (d : PyData) (hl : h.log.length < 1000000) : HouseOk (h.note d) :=
  ⟨ok.rows, ok.jobs, ok.cnt, ok.nums, ok.held, ok.staff, ok.pause, ok.needy, ⟨ok.sizes.1, ok.sizes.2.1, by show (h.log ++ [d]).length ≤ _; rw [List.length_append]; exact hl, ok.sizes.2.2.2⟩, ok.alive, ok.clks, ok.pot⟩
@[irreducible] def sp_House_fail (K : PySem.W.Frag) : Sp := fun vs H Q E => ∃ (G : HG) (n : Nat), vs = [.ref G.p, .int (n : Int)] ∧ HouseAt K H G ∧ HouseOk G.er ∧ n < G.given ∧ G.log.length < 1000000 ∧ ∀ H' G', Stp K H G H' G' → G'.er = (G.er.fail n).2 → Q (.bl (G.er.fail n).1) H'
end LH
end

section
set_option Elab.async false
set_option linter.all false
set_option maxRecDepth 100000
set_option maxHeartbeats 4000000
set_option pp.maxSteps 1500
namespace LH
open PySem PySem.Spec PyProof.Rows L2 StX LamX
variable {P : Program} {w : World} {K : PySem.W.Frag} {mg : Str → Option Value} {base : Heap}
theorem pa3_set {l : List LeaseG} {i : Nat} {g g' : LeaseG} (hi : l[i]? = some g) (ea : g'.a = g.a) : pa3 (l.set i g') = pa3 l := by
  unfold pa3
  exact map_set' (f := fun g : LeaseG => g.a) hi ea
theorem stp_setC {H : Hp} {G : HG} {l : LeaseG} {j : LeaseS} {i : Nat} (hg : HouseAt K H G) (hi : G.cnt[i]? = some l) (en : j.num = l.num) : Stp K H G (upd H l.a (.ins (cE K) l.dx (leaseFs (l.W j)))) { G with cnt := G.cnt.set i (l.W j) } :=
  stp_of hg (b3 (mi3 (List.mem_of_getElem? hi))) (hg.setC hi (l' := l.W j) rfl en) (fun b hb => by
    unfold adr at hb ⊢
    rw [show pa3 (G.cnt.set i (l.W j)) = pa3 G.cnt from pa3_set hi rfl] at hb
    exact hb) rfl same_jobs
theorem er_setC {G : HG} {i : Nat} {l : LeaseG} {j : LeaseS} {n : Nat} {f : LeaseS → LeaseS} (nn : (G.er.cnt.map (·.num)).Nodup) (hi : G.cnt[i]? = some l) (hk : l.num = n) (e : j = f l.toLeaseS) :
    HG.er { G with cnt := G.cnt.set i (l.W j) } = { G.er with cnt := G.er.cnt.map fun o => if o.num = n then f o else o } := by
  rw [er_nums] at nn
  have hlt := (List.getElem?_eq_some_iff.mp hi).1
  have z : (G.cnt.set i (l.W j)).map (·.toLeaseS) = (G.cnt.map (·.toLeaseS)).map fun o => if o.num = n then f o else o := by
    apply List.ext_getElem?
    intro k
    rw [List.map_map, List.getElem?_map, List.getElem?_map, List.getElem?_set]
    by_cases h : i = k
    · subst h
      rw [if_pos rfl, if_pos hlt, hi]
      simp [hk, e, LeaseG.W]
    · rw [if_neg h]
      cases ej : G.cnt[k]? with
      | none => rfl
      | some q =>
        have hne : q.num ≠ n := fun z => by
          have h1 : (G.cnt.map (·.num))[i]? = some n := by rw [List.getElem?_map, hi]; simp [hk]
          have h2 : (G.cnt.map (·.num))[k]? = some n := by rw [List.getElem?_map, ej]; simp [z]
          obtain ⟨a1, a2⟩ := List.getElem?_eq_some_iff.mp h1
          obtain ⟨b1, b2⟩ := List.getElem?_eq_some_iff.mp h2
          exact h ((List.getElem_inj nn).mp (a2.trans b2.symm))
        simp [hne]
  unfold HG.er
  simp only
  rw [z]
@[irreducible] def sp_House_beat (K : PySem.W.Frag) : Sp := fun vs H Q E => ∃ (G : HG) (n : Nat), vs = [.ref G.p, .int (n : Int)] ∧ HouseAt K H G ∧ HouseOk G.er ∧ n < G.given ∧ G.log.length < 1000000 ∧ ∀ H' G', Stp K H G H' G' → G'.er = (G.er.beat n).2 → Q (.bl (G.er.beat n).1) H'
@[irreducible] def sp_House_again (K : PySem.W.Frag) : Sp := fun vs H Q E => ∃ (G : HG) (n : Nat) (g : JobG), vs = [.ref G.p, .int (n : Int)] ∧ HouseAt K H G ∧ G.jobs[n]? = some g ∧ G.log.length < 1000000 ∧ ∀ H' G', Stp K H G H' G' → G'.er = (G.er.again n).2 → Q (.bl (G.er.again n).1) H'
@[irreducible] def sp_House_tell (K : PySem.W.Frag) : Sp := fun vs H Q E => ∃ (G : HG) (n : Nat) (sh : Int), vs = [.ref G.p, .int (n : Int), .int sh] ∧ HouseAt K H G ∧ HouseOk G.er ∧ n < G.given ∧ (0 ≤ sh ∧ sh ≤ 100) ∧ G.log.length < 1000000 ∧ ∀ H' G', Stp K H G H' G' → G'.er = (G.er.tell n sh).2 → Q (.bl (G.er.tell n sh).1) H'
theorem sc_House_tell : FnScope ["self", "number", "share", "lease"] ["self", "number", "share"] (defScope s_House_tell) := ⟨rfl, rfl, rfl, by decide +kernel, rfl, by decide +kernel, by decide +kernel⟩
theorem Tp.ok_House_tell (T : Tp P w K mg base) : FnR P w K mg base (L2.CX P w) (2 + 1) (He.ma K (He.ga K "House") "tell") (sp_House_tell K) := by
  refine fnr (N := ["self", "number", "share", "lease"]) (ps := ["self", "number", "share"]) (k := 2) T.fd_House_tell sc_House_tell (fun _ _ _ _ _ _ us hl => match us, hl with | [_, _, _], _ => rfl) (fun vs H Q E h => ?_) fun cdv A outer s H vs Q E hr h => ?_
  · unfold sp_House_tell at h
    obtain ⟨_, _, _, rfl, _⟩ := h
    rfl
  unfold sp_House_tell at h
  obtain ⟨G, n, sh, rfl, hg, ok, hn, hs, hl, q⟩ := h
  refine ⟨_, (pss_cons (ps_set (i := 3) sc_House_tell.nd rfl (by first | exact .inl rfl | exact .inr rfl) (pe_methR (pv 0) T.c_House T.m_House_lease T.ok_House_lease (rm hr) passE (pa_cons (pv 1) pa_nil)))
      (pss_cons (ps_if (pt_not (pt_val (pe_callP T.ok_is_number (rm hr) (kp_of T.fd_is_number) rfl T.g_is_number passE (pa_cons (pv 2) (pa_cons pe_int (pa_cons (pe_gi rfl T.v_MOST_SHARE) pa_nil)))))) (pss_one (ps_raise rfl takesE (pmk_own PySem.F.excBase_ValueError T.x_BadPart.1 T.g_BadPart T.x_BadPart.2.1 (raises_own T.x_BadPart.2.2.1 T.x_BadPart.2.2.2) rfl))) pss_nil)
      (pss_cons (ps_if (PW.pt (pw_or (pt_cmpR op_isN (pv 3) pe_non (nomark _)) (pw_or1 (pt_cmpR op_lt (pv 2) (pe_fld (pe_ix ix_list (pe_fld (pv 0) rfl) (pe_fld (pv 3) rfl) (fun _ _ => rfl)) rfl) (nomark _))))) (pss_one (ps_ret pe_bl)) pss_nil)
      (pss_cons (ps_expr (pe_methR (pv 0) T.c_House T.m_House_note T.ok_House_note (rm hr) passE (pa_cons (pe_tup (pa_cons pe_str (pa_cons (pv 1) (pa_cons (pv 2) pa_nil)))) pa_nil)))
      (pss_cons (ps_fld (pe_ix ix_list (pe_fld (pv 0) rfl) (pe_fld (pv 3) rfl) (fun _ _ => rfl)) (pv 2) rfl)
      (pss_one (ps_ret pe_bl))))))), ?_⟩
  refine ⟨_, rfl, hm hg (by kernel_rfl) ⟨_, rfl, lease_ok hg hn ?_⟩⟩
  refine ⟨_, rfl, num_ok hs ⟨_, rfl, ?_⟩⟩
  unfold HouseS.tell at q
  cases ef : G.cnt.find? fun l => decide (l.num = n) with
  | none =>
    rw [er_lease_none ef] at q
    exact ⟨_, rfl, rfl, _, rfl, q H G (.refl hg) rfl⟩
  | some l =>
    rw [er_lease_some ef] at q
    have hlm := List.mem_of_find?_eq_some ef
    obtain ⟨g, r, eg, _, _, _, _⟩ := lease_job ok hlm
    have hla := hg.cnt l hlm
    have hj := hg.jobs g (job_mem eg)
    simp only at q
    rw [er_job, eg] at q
    simp only [Option.map_some] at q
    refine ⟨_, rfl, rfl, _, rfl, ?_⟩
    refine ⟨_, rfl, _, rfl, T.hr_jobs hg ⟨_, rfl, T.er_work hla ⟨_, _, _, _, rfl, rfl, SqL.of hg.jl, atI_nat (refs_at eg), T.jr_share hj ⟨_, _, rfl, rfl, _, rfl, ?_⟩⟩⟩⟩
    by_cases h : sh < g.share
    · rw [if_pos h] at q
      exact dT h (q H G (.refl hg) rfl)
    · rw [if_neg h] at q
      refine dF h ?_
      refine ⟨_, rfl, hm hg (by kernel_rfl) ⟨_, rfl, _, rfl, by show 3 ≤ sizeLine; decide, fun u hu => ?_⟩⟩
      have s1 := Stp.same hg (same_new (o := .tup [.str (Str.ofString "tell"), .int (n : Int), .int sh]) hu)
      have dt : Dt K (upd H u (.tup [.str (Str.ofString "tell"), .int (n : Int), .int sh])) (.ref u) (.tuple [S' "tell", N' n, I' sh]) := .tup (SqT.of upd_same) (.cons (.str _) (.cons (.int _) (.cons (.int _) .nil)))
      refine noted s1.at_ dt hl fun H2 G2 s2 e2 p2 j2 c2 _ _ h2 => ?_
      have hg2 := s2.at_
      have eg2 : G2.jobs[l.work]? = some g := by rw [j2]; exact eg
      have hj2 := hg2.jobs g (job_mem eg2)
      have hla2 := hg2.cnt l (c2 ▸ hlm)
      rw [← p2]
      refine ⟨_, rfl, _, rfl, T.hr_jobs hg2 ⟨_, rfl, T.er_work hla2 ⟨_, _, _, _, rfl, rfl, SqL.of hg2.jl, atI_nat (refs_at eg2), T.jw_share hj2 sh ?_⟩⟩⟩
      have s3 := stp_setJ hg2 eg2 (j := { g.toJobS with share := sh }) rfl rfl
      refine q _ _ (s1.trans (s2.trans s3)) ?_
      rw [er_setJ (f := fun j => { j with share := sh }) eg2 rfl, e2]
end LH
end

section
set_option Elab.async false
set_option linter.all false
set_option maxRecDepth 100000
set_option maxHeartbeats 4000000
set_option pp.maxSteps 1500
namespace LH
open PySem PySem.Spec PyProof.Rows L2 StX LamX
variable {P : Program} {w : World} {K : PySem.W.Frag} {mg : Str → Option Value} {base : Heap}
theorem cnt_dget {H : Hp} {G : HG} {n : Nat} {l : LeaseG} (hg : HouseAt K H G) (e : (G.cnt.find? fun l => decide (l.num = n)) = some l) : DGet H G.cd (.int (n : Int)) (some (.ref l.a)) := by
  have z := DGet.k (k := Sum.inl (n : Int)) hg.cd
  rw [cnt_get, e] at z
  exact z
theorem held_lease {G : HG} (ok : HouseOk G.er) {n m : Nat} {g : JobG} (eg : G.jobs[n]? = some g) (hh : g.held = some m) : ∃ l, (G.cnt.find? fun l => decide (l.num = m)) = some l ∧ l ∈ G.cnt ∧ l.work = n ∧ l.num = m := by
  obtain ⟨l0, hl0, e1, e2⟩ := ok.held n g.toJobS m (by rw [er_job, eg]; rfl) hh
  obtain ⟨l, hl, rfl⟩ := List.mem_map.mp hl0
  have z := find_num (by rw [← er_nums]; exact ok.nums) hl
  rw [show l.num = m from e1] at z
  exact ⟨l, z, hl, e2, e1⟩
theorem optS_notnon (e : Option Str) : (!decide (optS e = V.non)) = e.isSome := by cases e <;> simp [optS]
@[irreducible] def sp_House_drop (K : PySem.W.Frag) : Sp := fun vs H Q E => ∃ (G : HG) (n : Nat) (g : JobG), vs = [.ref G.p, .int (n : Int)] ∧ HouseAt K H G ∧ HouseOk G.er ∧ G.jobs[n]? = some g ∧ G.log.length < 1000000 ∧ ∀ H' G', Stp K H G H' G' → G'.er = (G.er.drop n).2 → Q (.bl (G.er.drop n).1) H'
@[irreducible] def sp_House_progress (K : PySem.W.Frag) : Sp := fun vs H Q E => ∃ (G : HG) (n : Nat) (g : JobG), vs = [.ref G.p, .int (n : Int)] ∧ HouseAt K H G ∧ G.jobs[n]? = some g ∧ ∀ H' v, Same H H' → Dt K H' v (G.er.progress n) → Q v H'
end LH
end

section
set_option Elab.async false
set_option linter.all false
set_option maxRecDepth 100000
set_option maxHeartbeats 4000000
set_option pp.maxSteps 1500
namespace LH
open PySem PySem.Spec PyProof.Rows L2 StX LamX
variable {P : Program} {w : World} {K : PySem.W.Frag} {mg : Str → Option Value} {base : Heap}
theorem nats_flat (l : List Nat) : (vnats l).all flatV = true := by
  unfold vnats
  rw [List.all_map]
  exact List.all_eq_true.mpr fun _ _ => rfl
theorem inV_nats (x : Nat) (l : List Nat) : inV (.int (x : Int)) (vnats l) = decide (x ∈ l) := by
  unfold inV vnats
  rw [List.any_map, Bool.eq_iff_iff, List.any_eq_true, decide_eq_true_eq]
  constructor
  · rintro ⟨y, hy, e⟩
    have h1 : (y : Int) = (x : Int) := by simpa [eqV] using e
    have : y = x := by omega
    rwa [← this]
  · exact fun h => ⟨x, h, by simp [eqV]⟩
theorem stepDone_steps (j : JobS) (t : Int) : (j.stepDone t).steps = j.steps ∧ (j.stepDone t).needs = j.needs := ⟨rfl, rfl⟩
theorem refs_set {l : List JobG} {i : Nat} {g g' : JobG} (hi : l[i]? = some g) (ea : g'.a = g.a) : refs (·.a) (l.set i g') = refs (·.a) l := by
  have z := pa2_set hi ea
  unfold pa2 at z
  unfold refs
  have := congrArg (List.map V.ref) z
  rw [List.map_map, List.map_map] at this
  exact this
/-- the jobs that need job n are freed -/
def freeJ (n : Nat) (t : Int) (o : JobS) : JobS := if n ∈ o.needs then { o with free := t } else o
theorem half_get {α : Type} {f : α → α} {l : List α} {i : Nat} : ((l.take i).map f ++ l.drop i)[i]? = l[i]? := by
  rw [List.getElem?_append_right (by rw [List.length_map, List.length_take]; omega)]
  rw [List.length_map, List.length_take, List.getElem?_drop]
  by_cases h : i < l.length
  · congr 1
    omega
  · rw [List.getElem?_eq_none (by omega), List.getElem?_eq_none (by omega)]
theorem half_next {α : Type} {f : α → α} {l : List α} {i : Nat} {x : α} (h : l[i]? = some x) : (l.take (i + 1)).map f ++ l.drop (i + 1) = ((l.take i).map f ++ l.drop i).set i (f x) := by
  obtain ⟨hi, he⟩ := List.getElem?_eq_some_iff.mp h
  rw [List.set_append, if_neg (by rw [List.length_map, List.length_take]; omega), List.length_map, List.length_take, List.drop_eq_getElem_cons hi, List.take_succ, h, Nat.min_eq_left (Nat.le_of_lt hi), Nat.sub_self]
  simp
  rw [List.drop_eq_getElem_cons hi]
  rfl
theorem half_same {α : Type} {f : α → α} {l : List α} {i : Nat} {x : α} (h : l[i]? = some x) (e : f x = x) : (l.take (i + 1)).map f ++ l.drop (i + 1) = (l.take i).map f ++ l.drop i := by
  obtain ⟨hi, he⟩ := List.getElem?_eq_some_iff.mp h
  rw [List.drop_eq_getElem_cons hi, List.take_succ, h, he]
  simp [e]
@[irreducible] def sp_House_done (K : PySem.W.Frag) : Sp := fun vs H Q E => ∃ (G : HG) (n : Nat), vs = [.ref G.p, .int (n : Int)] ∧ HouseAt K H G ∧ HouseOk G.er ∧ n < G.given ∧ G.log.length < 1000000 ∧ ∀ H' G', Stp K H G H' G' → G'.er = (G.er.done n).2 → Q (.bl (G.er.done n).1) H'
theorem sc_House_done : FnScope ["self", "number", "lease", "job", "other"] ["self", "number"] (defScope s_House_done) := ⟨rfl, rfl, rfl, by decide +kernel, rfl, by decide +kernel, by decide +kernel⟩
theorem Tp.ok_House_done (T : Tp P w K mg base) : FnR P w K mg base (L2.CX P w) (2 + 1) (He.ma K (He.ga K "House") "done") (sp_House_done K) := by
  refine fnr (N := ["self", "number", "lease", "job", "other"]) (ps := ["self", "number"]) (k := 2) T.fd_House_done sc_House_done (fun _ _ _ _ _ _ us hl => match us, hl with | [_, _], _ => rfl) (fun vs H Q E h => ?_) fun cdv A outer s H vs Q E hr h => ?_
  · unfold sp_House_done at h
    obtain ⟨_, _, rfl, _⟩ := h
    rfl
  unfold sp_House_done at h
  obtain ⟨G, n, rfl, hg, ok, hn, hl, q⟩ := h
  refine ⟨_, (pss_cons (ps_set (i := 2) sc_House_done.nd rfl (by first | exact .inl rfl | exact .inr rfl) (pe_methR (pv 0) T.c_House T.m_House_lease T.ok_House_lease (rm hr) passE (pa_cons (pv 1) pa_nil)))
      (pss_cons (ps_if (pt_cmpR op_isN (pv 2) pe_non (nomark _)) (pss_one (ps_ret pe_bl)) pss_nil)
      (pss_cons (ps_expr (pe_methR (pv 0) T.c_House T.m_House_note T.ok_House_note (rm hr) passE (pa_cons (pe_tup (pa_cons pe_str (pa_cons (pv 1) pa_nil))) pa_nil)))
      (pss_cons (ps_set (i := 3) sc_House_done.nd rfl (by first | exact .inl rfl | exact .inr rfl) (pe_methR (pv 0) T.c_House T.m_House_closed T.ok_House_closed (rm hr) passE (pa_cons (pv 2) pa_nil)))
      (pss_cons (ps_if (pt_val (pe_methR (pv 3) T.c_Job T.m_Job_step_done T.ok_Job_step_done (rm hr) passE (pa_cons (pe_fld (pv 0) rfl) pa_nil))) (pss_one (ps_for passOwnE rfl (pi_list (pe_fld (pv 0) rfl)) (pg_name (i := 4) sc_House_done.nd rfl (by first | exact .inl rfl | exact .inr rfl)) (pss_one (ps_if (pt_cmpR op_in_seq (pe_fld (pv 2) rfl) (pe_fld (pv 4) rfl) (by rfl)) (pss_one (ps_fld (pv 4) (pe_fld (pv 0) rfl) rfl)) pss_nil)))) pss_nil)
      (pss_one (ps_ret pe_bl))))))), ?_⟩
  refine ⟨_, rfl, hm hg (by kernel_rfl) ⟨_, rfl, lease_ok hg hn ?_⟩⟩
  unfold HouseS.done at q
  cases ef : G.cnt.find? fun l => decide (l.num = n) with
  | none =>
    rw [er_lease_none ef] at q
    exact ⟨_, rfl, rfl, _, rfl, q H G (.refl hg) rfl⟩
  | some l =>
    rw [er_lease_some ef] at q
    have hlm := List.mem_of_find?_eq_some ef
    obtain ⟨g, r, eg, _, hs, er', ht⟩ := lease_job ok hlm
    refine ⟨_, rfl, rfl, _, rfl, ?_⟩
    refine ⟨_, rfl, hm hg (by kernel_rfl) ⟨_, rfl, by show 2 ≤ sizeLine; decide, fun u hu => ?_⟩⟩
    have s1 := Stp.same hg (same_new (o := .tup [.str (Str.ofString "done"), .int (n : Int)]) hu)
    have dt : Dt K (upd H u (.tup [.str (Str.ofString "done"), .int (n : Int)])) (.ref u) (.tuple [S' "done", N' n]) := .tup (SqT.of upd_same) (.cons (.str _) (.cons (.int _) .nil))
    refine noted s1.at_ dt hl fun H2 G2 s2 e2 p2 j2 c2 _ _ h2 => ?_
    have hg2 := s2.at_
    have ok2 : HouseOk G2.er := by rw [e2]; exact ok.note _ (by rw [er_log_len]; exact hl)
    have er2 : G2.er.row g.kind = some r := by rw [e2]; exact er'
    rw [← p2]
    refine ⟨_, rfl, hm hg2 (by kernel_rfl) ⟨_, rfl, closed_ok hg2 (by rw [c2]; exact hlm) (by rw [j2]; exact eg) hs ok2.rows ok2.nums er2 fun H3 G3 s3 e3 hla3 nla3 ej3 _ => ?_⟩⟩
    have eg3 : G3.jobs[l.work]? = some g := by rw [ej3, j2]; exact eg
    have hj3 := s3.at_.jobs g (job_mem eg3)
    have h3 : G3.here = G.here := by
      show G3.er.here = _
      rw [e3, closed_rest, e2]
      rfl
    rw [← s3.p]
    refine ⟨_, rfl, jm hj3 (by kernel_rfl) ⟨_, rfl, T.hr_here s3.at_ (sdone_ok hj3 ⟨_, rfl, ?_⟩)⟩⟩
    have s4 := stp_setJ s3.at_ eg3 (j := g.stepDone G3.here) rfl rfl
    have e4 : HG.er { G3 with jobs := G3.jobs.set l.work (g.W (g.stepDone G3.here)) } = ((G.er.note (.tuple [S' "done", N' n])).closed l.toLeaseS).jobUp l.work fun j => j.stepDone G.er.here := by
      rw [er_setJ (f := fun j => j.stepDone G3.here) eg3 rfl, e3, h3, e2]
      rfl
    have ee : (((G.er.note (.tuple [S' "done", N' n])).closed l.toLeaseS).jobUp l.work fun j => j.stepDone G.er.here).ended l.work = (g.stepDone G3.here).ended := by
      rw [← e4, er_ended]
      show ((G3.jobs.set l.work (g.W (g.stepDone G3.here)))[l.work]?).bind _ = _
      rw [List.getElem?_set_self (List.getElem?_eq_some_iff.mp eg3).1]
      rfl
    have hk4 := s4.fr.keep l.a _ hla3.ob (fun _ z => nomatch z) nla3
    simp only at q
    rw [show l.toLeaseS.work = l.work from rfl, ee] at q
    have s5 := s1.trans (s2.trans (s3.trans s4))
    by_cases hd : (g.stepDone G3.here).ended = some tDone
    · rw [if_pos hd] at q
      refine dT hd ?_
      generalize upd H3 g.a (.ins (cJ K) g.dx (jobFs (g.W (g.stepDone G3.here)))) = H4 at s4 s5 hk4 ⊢
      have hg4 := s4.at_
      obtain ⟨G4, eG4⟩ : ∃ G4, G4 = { G3 with jobs := G3.jobs.set l.work (g.W (g.stepDone G3.here)) } := ⟨_, rfl⟩
      rw [← eG4] at s4 s5 hk4 hg4 e4
      have p4 : G4.p = G3.p := by rw [eG4]
      rw [← p4]
      have h4 : G4.here = G.here := by rw [eG4]; exact h3
      refine ⟨_, rfl, T.hr_jobs hg4 ⟨_, rfl, ⟨_, SqL.of hg4.jl⟩, for_list (xs := refs (·.a) G4.jobs) (fun i σ H' => ∃ (a : Option V) (Gi : HG), σ = [some (.ref G4.p), some (.int (n : Int)), some (.ref l.a), some (.ref g.a), a] ∧ Stp K H G H' Gi ∧ Gi.jl = G4.jl ∧ Gi.p = G4.p ∧ refs (·.a) Gi.jobs = refs (·.a) G4.jobs ∧
        LeaseAt K H' l ∧ l.a ∉ adr Gi ∧ Gi.er = { G4.er with jobs := (G4.er.jobs.take i).map (freeJ l.work G.here) ++ G4.er.jobs.drop i }) ?_ ?_ ?_ ?_⟩⟩
      · refine ⟨_, G4, rfl, s5, rfl, rfl, rfl, ⟨hk4.1⟩, hk4.2, ?_⟩
        simp
      · rintro i σ H' _ ⟨a, Gi, rfl, st, ejl, _, er, _⟩
        rw [← er, ← ejl]
        exact SqL.of st.at_.jl
      · rintro i v σ H' ev ⟨a, Gi, rfl, st, ejl, ep, er, hla, nla, ei⟩
        rw [← er] at ev
        obtain ⟨gi, egi, rfl⟩ : ∃ gi, Gi.jobs[i]? = some gi ∧ V.ref gi.a = v := by
          unfold refs at ev
          rw [List.getElem?_map] at ev
          cases e : Gi.jobs[i]? with
          | none => rw [e] at ev; cases ev
          | some gi => rw [e] at ev; exact ⟨gi, rfl, Option.some.inj ev⟩
        have hgi := st.at_
        have hji := hgi.jobs gi (job_mem egi)
        have ex : G4.er.jobs[i]? = some gi.toJobS := by
          have h1 : Gi.er.jobs[i]? = some gi.toJobS := by rw [er_job, egi]; rfl
          rw [ei] at h1
          have h2 : ((G4.er.jobs.take i).map (freeJ l.work G.here) ++ G4.er.jobs.drop i)[i]? = some gi.toJobS := h1
          rw [half_get] at h2
          exact h2
        have hhi : Gi.here = G.here := by
          show Gi.er.here = _
          rw [ei]
          exact h4
        rw [← ep]
        refine ⟨_, rfl, T.er_work hla ⟨_, rfl, T.jr_needed hji ⟨_, _, rfl, .inr hji.ne, rfl, nats_flat _, _, rfl, ?_⟩⟩⟩
        show if inV (.int (l.work : Int)) (vnats gi.needs) = true then _ else _
        rw [inV_nats]
        by_cases hm : l.work ∈ gi.needs
        · refine dT hm ⟨_, rfl, T.hr_here hgi ⟨_, rfl, T.jw_free_at hji Gi.here ?_⟩⟩
          have s6 := stp_setJ hgi egi (j := { gi.toJobS with free := Gi.here }) rfl rfl
          have hk := s6.fr.keep l.a _ hla.ob (fun _ z => nomatch z) nla
          refine ⟨_, { Gi with jobs := Gi.jobs.set i (gi.W { gi.toJobS with free := Gi.here }) }, by rfl, st.trans s6, ejl, rfl, (refs_set (g' := gi.W { gi.toJobS with free := Gi.here }) egi rfl).trans er, ⟨hk.1⟩, hk.2, ?_⟩
          rw [er_setJ (f := fun j => { j with free := Gi.here }) egi rfl]
          unfold HouseS.jobUp
          rw [er_job, egi]
          show ({ Gi.er with jobs := Gi.er.jobs.set i { gi.toJobS with free := Gi.here } } : HouseS) = _
          rw [half_next ex, ei, hhi]
          unfold freeJ
          rw [if_pos hm]
        · refine dF hm ⟨_, Gi, by rfl, st, ejl, rfl, er, hla, nla, ?_⟩
          have ef2 : freeJ l.work G.here gi.toJobS = gi.toJobS := by
            unfold freeJ
            rw [if_neg hm]
          rw [half_same ex ef2]
          exact ei
      · rintro σ H' ⟨a, Gi, rfl, st, ejl, ep, er, hla, nla, ei⟩
        refine q H' Gi st ?_
        rw [ei, ← e4]
        have el : (refs (·.a) G4.jobs).length = G4.er.jobs.length := by rw [er_len]; simp [refs]
        rw [el, List.take_length, List.drop_length, List.append_nil]
        rfl
    · rw [if_neg hd] at q
      exact dF hd (q _ _ s5 e4)
end LH
end

section
set_option Elab.async false
set_option linter.all false
set_option maxRecDepth 100000
set_option maxHeartbeats 4000000
set_option pp.maxSteps 1500
namespace LH
open PySem PySem.Spec PyProof.Rows L2 StX LamX
variable {P : Program} {w : World} {K : PySem.W.Frag} {mg : Str → Option Value} {base : Heap}
@[irreducible] def sp_Job___init__ (K : PySem.W.Frag) : Sp := fun vs H Q E => ∃ (x dx t n : Addr) (rank til most : Int) (steps : List Str) (needs : List Nat), vs = [.ref x, .int rank, .int til, .ref t, .ref n, .int most] ∧ H x = some (.ins (cJ K) dx []) ∧
  Q .non (upd H x (.ins (cJ K) dx (jobFs ⟨⟨rank, til, steps, needs, most, 0, 0, 0, none, none, 0⟩, x, dx, t, n⟩)))
theorem sc_Job___init__ : FnScope ["self", "rank", "until", "steps", "needs", "most"] ["self", "rank", "until", "steps", "needs", "most"] (defScope s_Job___init__) := ⟨rfl, rfl, rfl, by decide +kernel, rfl, by decide +kernel, by decide +kernel⟩
theorem Tp.ok_Job___init__ (T : Tp P w K mg base) : FnR P w K mg base (L2.CX P w) (0 + 1) (He.ma K (He.ga K "Job") "__init__") (sp_Job___init__ K) := by
  refine fnr (N := ["self", "rank", "until", "steps", "needs", "most"]) (ps := ["self", "rank", "until", "steps", "needs", "most"]) (k := 0) T.fd_Job___init__ sc_Job___init__ (fun _ _ _ _ _ _ us hl => match us, hl with | [_, _, _, _, _, _], _ => rfl) (fun vs H Q E h => ?_) fun cdv A outer s H vs Q E hr h => ?_
  · unfold sp_Job___init__ at h
    obtain ⟨_, _, _, _, _, _, _, _, _, rfl, _⟩ := h
    rfl
  unfold sp_Job___init__ at h
  obtain ⟨x, dx, t, n, rank, til, most, steps, needs, rfl, hx, q⟩ := h
  refine ⟨_, (pss_cons (ps_fld (pv 0) (pv 1) rfl)
      (pss_cons (ps_fld (pv 0) (pv 2) rfl)
      (pss_cons (ps_fld (pv 0) (pv 3) rfl)
      (pss_cons (ps_fld (pv 0) (pv 4) rfl)
      (pss_cons (ps_fld (pv 0) (pv 5) rfl)
      (pss_cons (ps_fld (pv 0) pe_int rfl)
      (pss_cons (ps_fld (pv 0) pe_int rfl)
      (pss_cons (ps_fld (pv 0) pe_int rfl)
      (pss_cons (ps_fld (pv 0) pe_non rfl)
      (pss_cons (ps_fld (pv 0) pe_non rfl)
      (pss_one (ps_fld (pv 0) pe_int rfl)))))))))))), ?_⟩
  refine ⟨_, rfl, _, rfl, w0 hx T.c_Job T.n_Job_rank (Nat.le_of_ble_eq_true (by kernel_rfl)) ?_⟩
  refine ⟨_, rfl, _, rfl, w0 upd_same T.c_Job T.n_Job_until (Nat.le_of_ble_eq_true (by kernel_rfl)) ?_⟩
  refine ⟨_, rfl, _, rfl, w0 upd_same T.c_Job T.n_Job_steps (Nat.le_of_ble_eq_true (by kernel_rfl)) ?_⟩
  refine ⟨_, rfl, _, rfl, w0 upd_same T.c_Job T.n_Job_needed (Nat.le_of_ble_eq_true (by kernel_rfl)) ?_⟩
  refine ⟨_, rfl, _, rfl, w0 upd_same T.c_Job T.n_Job_most (Nat.le_of_ble_eq_true (by kernel_rfl)) ?_⟩
  refine ⟨_, rfl, w0 upd_same T.c_Job T.n_Job_done_steps (Nat.le_of_ble_eq_true (by kernel_rfl)) ?_⟩
  refine ⟨_, rfl, w0 upd_same T.c_Job T.n_Job_tries (Nat.le_of_ble_eq_true (by kernel_rfl)) ?_⟩
  refine ⟨_, rfl, w0 upd_same T.c_Job T.n_Job_share (Nat.le_of_ble_eq_true (by kernel_rfl)) ?_⟩
  refine ⟨_, rfl, w0 upd_same T.c_Job T.n_Job_ended (Nat.le_of_ble_eq_true (by kernel_rfl)) ?_⟩
  refine ⟨_, rfl, w0 upd_same T.c_Job T.n_Job_held (Nat.le_of_ble_eq_true (by kernel_rfl)) ?_⟩
  refine ⟨_, rfl, w0 upd_same T.c_Job T.n_Job_free_at (Nat.le_of_ble_eq_true (by kernel_rfl)) ?_⟩
  simp only [upd_upd]
  have e : putF ("free_at" : Str) (V.int 0) (putF ("held" : Str) V.non (putF ("ended" : Str) V.non (putF ("share" : Str) (V.int 0) (putF ("tries" : Str) (V.int 0) (putF ("done_steps" : Str) (V.int 0) (putF ("most" : Str) (V.int most) (putF ("needed" : Str) (V.ref n)
    (putF ("steps" : Str) (V.ref t) (putF ("until" : Str) (V.int til) (putF ("rank" : Str) (V.int rank) [])))))))))) = jobFs ⟨⟨rank, til, steps, needs, most, 0, 0, 0, none, none, 0⟩, x, dx, t, n⟩ := by kernel_rfl
  rw [e]
  exact q
theorem newJob_ok {x dx t n : Addr} {rank til most : Int} {steps : List Str} {needs : List Nat} {H : Hp} {Q : VK} {E : XK} (hx : H x = some (.ins (cJ K) dx [])) (q : Q .non (upd H x (.ins (cJ K) dx (jobFs ⟨⟨rank, til, steps, needs, most, 0, 0, 0, none, none, 0⟩, x, dx, t, n⟩)))) :
    sp_Job___init__ K [.ref x, .int rank, .int til, .ref t, .ref n, .int most] H Q E := by
  unfold sp_Job___init__
  exact ⟨x, dx, t, n, rank, til, most, steps, needs, rfl, hx, q⟩
/-- a new job stands at the end -/
theorem stp_putJ {H : Hp} {G : HG} {g : JobG} (hg : HouseAt K H G) (hj : JobAt K H g) (hn : g.a ∉ adr G) {H0 : Hp} {G0 : HG} (s0 : Stp K H0 G0 H G) (hn0 : H0 g.a = none) : Stp K H0 G0 (upd H G.jl (.lst (refs (·.a) G.jobs ++ [.ref g.a]))) { G with jobs := G.jobs ++ [g] } := by
  refine ⟨hg.putJ hj hn, ⟨fun b o e nt na => ?_, fun tb => tabs_upd hg.jl trivial (s0.fr.tabs tb)⟩, s0.base, fun i q hq => ?_⟩
  · obtain ⟨h1, h2⟩ := s0.fr.keep b o e nt na
    have hb : b ≠ G.jl := fun z => h2 (by rw [z]; exact b0 (i := 3))
    refine ⟨(upd_ne hb).trans h1, fun z => ?_⟩
    unfold adr at z h2
    simp only [List.mem_append] at z h2
    rcases z with z | z | z | z | z
    · exact h2 (.inl z)
    · exact h2 (.inr (.inl z))
    · unfold pa2 at z
      rw [List.map_append, List.mem_append] at z
      rcases z with z | z
      · exact h2 (.inr (.inr (.inl z)))
      · have : b = g.a := by simpa using z
        rw [this, hn0] at e
        cases e
    · exact h2 (.inr (.inr (.inr (.inl z))))
    · exact h2 (.inr (.inr (.inr (.inr z))))
  · obtain ⟨q', eq', ea⟩ := s0.jobs i q hq
    exact ⟨q', by
      show (G.jobs ++ [g])[i]? = _
      rw [List.getElem?_append_left (List.getElem?_eq_some_iff.mp eq').1]
      exact eq', ea⟩
@[irreducible] def sp_House_added (K : PySem.W.Frag) : Sp := fun vs H Q E => ∃ (G : HG) (g : JobG), vs = [.ref G.p, .ref g.a] ∧ HouseAt K H G ∧ JobAt K H g ∧ g.a ∉ adr G ∧ G.jobs.length < 1000000 ∧
  ∀ (H1 : Hp), (∀ b, b ≠ g.a → H1 b = H b) → HouseAt K H1 G → JobAt K H1 (g.W { g.toJobS with free := G.here }) → Q (.int (G.jobs.length : Int)) (upd H1 G.jl (.lst (refs (·.a) G.jobs ++ [.ref g.a])))
theorem sc_House_added : FnScope ["self", "job"] ["self", "job"] (defScope s_House_added) := ⟨rfl, rfl, rfl, by decide +kernel, rfl, by decide +kernel, by decide +kernel⟩
theorem Tp.ok_House_added (T : Tp P w K mg base) : FnR P w K mg base (L2.CX P w) (0 + 1) (He.ma K (He.ga K "House") "added") (sp_House_added K) := by
  refine fnr (N := ["self", "job"]) (ps := ["self", "job"]) (k := 0) T.fd_House_added sc_House_added (fun _ _ _ _ _ _ us hl => match us, hl with | [_, _], _ => rfl) (fun vs H Q E h => ?_) fun cdv A outer s H vs Q E hr h => ?_
  · unfold sp_House_added at h
    obtain ⟨_, _, rfl, _⟩ := h
    rfl
  unfold sp_House_added at h
  obtain ⟨G, g, rfl, hg, hj, hn, hl, q⟩ := h
  refine ⟨_, (pss_cons (ps_fld (pv 1) (pe_fld (pv 0) rfl) rfl)
      (pss_cons (ps_expr (pe_bm PySem.F.plainAttrs_list PySem.F.slot_list_append PySem.F.type_list_append mt_append (pe_fld (pv 0) rfl) (pa_cons (pv 1) pa_nil)))
      (pss_one (ps_ret (pe_op op_sub (pe_callB call_len_seq rfl T.f_len bt_len (pa_cons (pe_fld (pv 0) rfl) pa_nil)) pe_int))))), ?_⟩
  refine ⟨_, rfl, T.hr_here hg ⟨_, rfl, T.jw_free_at hj G.here ?_⟩⟩
  have hj1 := hj.put (j := { g.toJobS with free := G.here }) rfl rfl
  have hg1 : HouseAt K (upd H g.a (.ins (cJ K) g.dx (jobFs (g.W { g.toJobS with free := G.here })))) G := hg.mono (fun b hb o e => by
    rw [upd_ne fun z => hn (by rw [← z]; exact hb)]
    exact e) (KeepT.upd hj.ob trivial)
  have z := q _ (fun b hb => upd_ne hb) hg1 hj1
  have hz := nlt
  refine ⟨_, rfl, T.hr_jobs hg1 ⟨.inl ⟨rfl, _, SqL.of hg1.jl⟩, _, rfl, _, _, _, rfl, rfl, hg1.jl, by simp only [refs, List.length_map]; omega, ?_⟩⟩
  have hg2 := hg1.putJ hj1 hn
  refine ⟨_, rfl, T.hr_jobs hg2 ⟨_, _, rfl, .inl (SqL.of hg2.jl), _, _, rfl, rfl, ?_⟩⟩
  have e : ((refs (·.a) (G.jobs ++ [g.W { g.toJobS with free := G.here }])).length : Int) - 1 = (G.jobs.length : Int) := by
    simp only [refs, List.length_map, List.length_append, List.length_singleton]
    omega
  show Q (.int (((refs (·.a) (G.jobs ++ [g.W { g.toJobS with free := G.here }])).length : Int) - 1)) _
  rw [e]
  exact z
theorem er_putJ {G : HG} {g : JobG} : HG.er { G with jobs := G.jobs ++ [g] } = { G.er with jobs := G.er.jobs ++ [g.toJobS] } := by
  unfold HG.er
  simp
theorem added_ok {G : HG} {g : JobG} {H0 H : Hp} {Q : VK} {E : XK} (hg0 : HouseAt K H0 G) (s0 : Same H0 H) (hj : JobAt K H g) (hn0 : H0 g.a = none) (hl : G.jobs.length < 1000000)
    (q : ∀ H' G', Stp K H0 G H' G' → G'.er = { G.er with jobs := G.er.jobs ++ [{ g.toJobS with free := G.here }] } → G'.clks = G.clks → G'.cl = G.cl → Q (.int (G.jobs.length : Int)) H') : sp_House_added K [.ref G.p, .ref g.a] H Q E := by
  unfold sp_House_added
  refine ⟨G, g, rfl, hg0.same s0, hj, hg0.outN hn0, hl, fun H1 h1 hg1 hj1 => ?_⟩
  have s1 : Same H0 H1 := fun b o e => by
    have ne : b ≠ g.a := fun z => by rw [z, hn0] at e; cases e
    rw [h1 b ne]
    exact s0 _ _ e
  exact q _ _ (stp_putJ hg1 hj1 (hg0.outN hn0) (Stp.same hg0 s1) hn0) er_putJ rfl rfl
@[irreducible] def sp_House_add (K : PySem.W.Frag) : Sp := fun vs H Q E => ∃ (G : HG) (rank time tries : Int) (t n : Addr) (steps : List Str) (needs : List Nat), vs = [.ref G.p, .int rank, .int time, .ref t, .ref n, .int tries] ∧ HouseAt K H G ∧ G.jobs.length < 1000000 ∧ G.log.length < 1000000 ∧
  (0 ≤ rank ∧ rank ≤ 9) ∧ (0 ≤ time ∧ time ≤ 99999) ∧ SqT K H t (vstrs steps) ∧ (1 ≤ steps.length ∧ steps.length ≤ 5) ∧ (∀ x ∈ steps, isName x = true ∧ ∃ r, G.er.row x = some r) ∧ SqT K H n (vnats needs) ∧ needs.length ≤ 6 ∧ needs.Pairwise (· < ·) ∧ (∀ m ∈ needs, m < G.jobs.length) ∧ (1 ≤ tries ∧ tries ≤ 9) ∧
  ∀ H' G', Stp K H G H' G' → G'.er = G.er.add rank time steps needs tries → Q (.int (G.jobs.length : Int)) H'
theorem rank_ok' {i : Int} {H : Hp} {Q : VK} {E : XK} (h : 0 ≤ i ∧ i ≤ 9) (q : Q .non H) : sp_need_rank K [.int i] H Q E := by
  unfold sp_need_rank
  exact ⟨i, rfl, h, q⟩
theorem tries_ok {i : Int} {H : Hp} {Q : VK} {E : XK} (h : 1 ≤ i ∧ i ≤ 9) (q : Q .non H) : sp_need_tries K [.int i] H Q E := by
  unfold sp_need_tries
  exact ⟨i, rfl, h, q⟩
theorem tick_ok {i lo : Int} {H : Hp} {Q : VK} {E : XK} (h : lo ≤ i ∧ i ≤ 99999) (q : Q .non H) : sp_need_tick K [.int i, .int lo] H Q E := by
  unfold sp_need_tick
  exact ⟨i, lo, rfl, h, q⟩
theorem steps_ok {d t : Addr} {kvs : List (Key × V)} {xs : List Str} {H : Hp} {Q : VK} {E : XK} (hd : H d = some (.dK kvs)) (ht : SqT K H t (vstrs xs)) (hl : 1 ≤ xs.length ∧ xs.length ≤ 5) (hx : ∀ x ∈ xs, isName x = true ∧ (valV kvs (Sum.inr x)).isSome = true) (q : ∀ H', Same H H' → Q .non H') : sp_need_steps K [.ref d, .ref t] H Q E := by
  unfold sp_need_steps
  exact ⟨d, t, kvs, xs, rfl, hd, ht, hl, hx, q⟩
theorem needs_ok {m : Int} {t : Addr} {ns : List Nat} {H : Hp} {Q : VK} {E : XK} (ht : SqT K H t (vnats ns)) (hl : ns.length ≤ 6) (hp : ns.Pairwise (· < ·)) (hn : ∀ n ∈ ns, (n : Int) < m) (q : Q .non H) : sp_need_needs K [.int m, .ref t] H Q E := by
  unfold sp_need_needs
  exact ⟨m, t, ns, rfl, ht, hl, hp, hn, q⟩
theorem dts_strs {H : Hp} : ∀ (l : List Str), Dts K H (vstrs l) (l.map .str)
  | [] => .nil
  | n :: l => .cons (.str _) (dts_strs l)
theorem sc_House_add : FnScope ["self", "rank", "time", "steps", "needs", "tries"] ["self", "rank", "time", "steps", "needs", "tries"] (defScope s_House_add) := ⟨rfl, rfl, rfl, by decide +kernel, rfl, by decide +kernel, by decide +kernel⟩
theorem Tp.okF_House_add (T : Tp P w K mg base) {fd : FuncData} (F : FunD K "add" "House.add" (defArgs s_House_add) (defBody s_House_add) (defScope s_House_add) (He.DefD.dvs K d_House_add) (He.DefD.kws K d_House_add) (He.ma K (He.ga K "House") "add") fd) : FnOk P w K mg base (L2.CX P w) (2 + 1) (He.ma K (He.ga K "House") "add") fd ["self", "rank", "time", "steps", "needs", "tries"] (sp_House_add K) := by
  refine FunD.ok (N := ["self", "rank", "time", "steps", "needs", "tries"]) (k := 2) F sc_House_add (fun vs H Q E h => ?_) fun cdv A outer s H vs Q E hr h => ?_
  · unfold sp_House_add at h
    obtain ⟨_, _, _, _, _, _, _, _, rfl, _⟩ := h
    rfl
  unfold sp_House_add at h
  obtain ⟨G, rank, time, tries, t, n, steps, needs, rfl, hg, hjl, hll, hr1, ht1, hst, hsl, hsx, hnt, hnl, hnp, hnb, htr, q⟩ := h
  refine ⟨_, (pss_cons (ps_expr (pe_callP T.ok_need_rank (rm hr) (kp_of T.fd_need_rank) rfl T.g_need_rank passE (pa_cons (pv 1) pa_nil)))
      (pss_cons (ps_expr (pe_callP T.ok_need_tick (rm hr) (kp_of T.fd_need_tick) rfl T.g_need_tick passE (pa_cons (pv 2) (pa_cons pe_int pa_nil))))
      (pss_cons (ps_expr (pe_callP T.ok_need_steps (rm hr) (kp_of T.fd_need_steps) rfl T.g_need_steps passE (pa_cons (pe_fld (pe_fld (pv 0) rfl) rfl) (pa_cons (pv 3) pa_nil))))
      (pss_cons (ps_expr (pe_callP T.ok_need_needs (rm hr) (kp_of T.fd_need_needs) rfl T.g_need_needs passE (pa_cons (pe_callB call_len_seq rfl T.f_len bt_len (pa_cons (pe_fld (pv 0) rfl) pa_nil)) (pa_cons (pv 4) pa_nil))))
      (pss_cons (ps_expr (pe_callP T.ok_need_tries (rm hr) (kp_of T.fd_need_tries) rfl T.g_need_tries passE (pa_cons (pv 5) pa_nil)))
      (pss_cons (ps_expr (pe_methR (pv 0) T.c_House T.m_House_note T.ok_House_note (rm hr) passE (pa_cons (pe_tup (pa_cons pe_str (pa_cons (pv 1) (pa_cons (pv 2) (pa_cons (pv 3) (pa_cons (pv 4) (pa_cons (pv 5) pa_nil))))))) pa_nil)))
      (pss_one (ps_ret (pe_methR (pv 0) T.c_House T.m_House_added T.ok_House_added (rm hr) passE (pa_cons (pe_makeR T.mk_Job T.ok_Job___init__ (rm hr) rfl T.g_Job passE (pa_cons (pv 1) (pa_cons (pv 2) (pa_cons (pv 3) (pa_cons (pv 4) (pa_cons (pv 5) pa_nil)))))) pa_nil)))))))))), ?_⟩
  refine ⟨_, rfl, rank_ok' hr1 ⟨_, rfl, tick_ok ht1 ?_⟩⟩
  refine ⟨_, rfl, T.hr_limits hg (T.mr_rows hg ⟨_, rfl, steps_ok hg.rd hst hsl (fun x hx => ⟨(hsx x hx).1, ?_⟩) fun H1 s1 => ?_⟩)⟩
  · obtain ⟨r, er'⟩ := (hsx x hx).2
    obtain ⟨i, g, e1, _⟩ := row_some er'
    rw [row_get, e1]
    rfl
  have hg1 := hg.same s1
  have k1 := KeepT.same (K := K) s1
  refine ⟨_, rfl, T.hr_jobs hg1 ⟨_, _, rfl, .inl (SqL.of hg1.jl), _, rfl, needs_ok (k1 _ _ hnt) hnl hnp (fun m hm' => by rw [refs_len]; have := hnb m hm'; omega) ⟨_, rfl, tries_ok htr ?_⟩⟩⟩
  refine ⟨_, rfl, hm hg1 (by kernel_rfl) ⟨_, rfl, _, rfl, _, rfl, _, rfl, _, rfl, by show 6 ≤ sizeLine; decide, fun u hu => ?_⟩⟩
  have s2 := Same.trans' s1 (same_new (o := .tup [.str (Str.ofString "add"), .int rank, .int time, .ref t, .ref n, .int tries]) hu)
  have k2 := KeepT.same (K := K) s2
  have hg2 := hg.same s2
  have dt : Dt K (upd H1 u (.tup [.str (Str.ofString "add"), .int rank, .int time, .ref t, .ref n, .int tries])) (.ref u) (.tuple [S' "add", I' rank, I' time, .tuple (steps.map .str), .tuple (needs.map N'), I' tries]) :=
    .tup (SqT.of upd_same) (.cons (.str _) (.cons (.int _) (.cons (.int _) (.cons (.tup (k2 _ _ hst) (dts_strs _)) (.cons (.tup (k2 _ _ hnt) (dts_nats _)) (.cons (.int _) .nil))))))
  refine noted hg2 dt hll fun H3 G3 s3 e3 p3 j3 c3 _ _ h3 => ?_
  have hg3 := s3.at_
  have k3 : KeepT K H H3 := fun a xs z => (s3.fr.keepT hg2) a xs (k2 a xs z)
  rw [← p3]
  refine ⟨_, rfl, hm hg3 (by kernel_rfl) ⟨_, rfl, _, rfl, _, rfl, _, rfl, _, rfl, fun x dx hx hdx hne => ?_⟩⟩
  refine newJob_ok (steps := steps) (needs := needs) upd_same ⟨rfl, ?_⟩
  rw [upd_upd]
  have sb : Same H3 (upd (upd H3 dx (.own x)) x (.ins (cJ K) dx (jobFs ⟨⟨rank, time, steps, needs, tries, 0, 0, 0, none, none, 0⟩, x, dx, t, n⟩))) := Same.trans' (same_new hdx) (same_new (by rw [upd_ne hne.symm]; exact hx))
  have kb := KeepT.same (K := K) sb
  refine added_ok (g := ⟨⟨rank, time, steps, needs, tries, 0, 0, 0, none, none, 0⟩, x, dx, t, n⟩) hg3 sb ⟨upd_same, kb _ _ (k3 _ _ hst), kb _ _ (k3 _ _ hnt)⟩ hx (by rw [j3]; exact hjl) fun H4 G4 s4 e4 _ _ => ?_
  rw [j3]
  refine q _ _ ((Stp.same hg s2).trans (s3.trans s4)) ?_
  rw [e4, e3, h3]
  rfl
end LH
end

section
set_option Elab.async false
set_option linter.all false
set_option maxRecDepth 100000
set_option maxHeartbeats 4000000
set_option pp.maxSteps 1500
namespace LH
open PySem PySem.Spec PyProof.Rows L2 StX LamX
variable {P : Program} {w : World} {K : PySem.W.Frag} {mg : Str → Option Value} {base : Heap}
theorem pa4_set {l : List ClockG} {i : Nat} {g g' : ClockG} (hi : l[i]? = some g) (ea : g'.a = g.a) : pa4 (l.set i g') = pa4 l := by
  unfold pa4
  exact map_set' (f := fun g : ClockG => g.a) hi ea
theorem refs_setK {l : List ClockG} {i : Nat} {g g' : ClockG} (hi : l[i]? = some g) (ea : g'.a = g.a) : refs (·.a) (l.set i g') = refs (·.a) l := by
  have z := pa4_set hi ea
  unfold pa4 at z
  unfold refs
  have := congrArg (List.map V.ref) z
  rw [List.map_map, List.map_map] at this
  exact this
theorem stp_setK {H : Hp} {G : HG} {c : ClockG} {j : ClockS} {i : Nat} (hg : HouseAt K H G) (hi : G.clks[i]? = some c) (es : j.steps = c.steps) : Stp K H G (upd H c.a (.ins (cC K) c.dx (clockFs (c.W j)))) { G with clks := G.clks.set i (c.W j) } :=
  stp_of hg (b4 (mi4 (List.mem_of_getElem? hi))) (hg.setK hi (c' := c.W j) rfl rfl es) (fun b hb => by
    unfold adr at hb ⊢
    rw [show pa4 (G.clks.set i (c.W j)) = pa4 G.clks from pa4_set hi rfl] at hb
    exact hb) rfl same_jobs
theorem er_setK {G : HG} {i : Nat} {c : ClockG} {j : ClockS} : HG.er { G with clks := G.clks.set i (c.W j) } = { G.er with clks := G.er.clks.set i j } := by
  unfold HG.er
  simp only [List.map_set]
  rfl
theorem er_clk (G : HG) (i : Nat) : G.er.clks[i]? = (G.clks[i]?).map (·.toClockS) := by simp [HG.er]
theorem strike_len (tick : Int) : ∀ (l : List Nat) (h : HouseS), (l.foldl (HouseS.strikeAt tick) h).jobs.length ≤ h.jobs.length + l.length
  | [], h => Nat.le_refl _
  | i :: l, h => by
    have h1 := strike_len tick l (HouseS.strikeAt tick h i)
    have h2 : (HouseS.strikeAt tick h i).jobs.length ≤ h.jobs.length + 1 := by
      unfold HouseS.strikeAt
      split
      · omega
      · split
        · simp [HouseS.newJob]
        · omega
    rw [List.foldl_cons, List.length_cons]
    omega
@[irreducible] def sp_House_strike (K : PySem.W.Frag) : Sp := fun vs H Q E => ∃ (G : HG) (tick : Int), vs = [.ref G.p, .int tick] ∧ HouseAt K H G ∧ G.jobs.length + G.clks.length < 1000000 ∧ ∀ H' G', Stp K H G H' G' → G'.er = G.er.strike tick → Q .non H'
theorem sc_House_strike : FnScope ["self", "tick", "clock"] ["self", "tick"] (defScope s_House_strike) := ⟨rfl, rfl, rfl, by decide +kernel, rfl, by decide +kernel, by decide +kernel⟩
theorem Tp.ok_House_strike (T : Tp P w K mg base) : FnR P w K mg base (L2.CX P w) (2 + 1) (He.ma K (He.ga K "House") "strike") (sp_House_strike K) := by
  refine fnr (N := ["self", "tick", "clock"]) (ps := ["self", "tick"]) (k := 2) T.fd_House_strike sc_House_strike (fun _ _ _ _ _ _ us hl => match us, hl with | [_, _], _ => rfl) (fun vs H Q E h => ?_) fun cdv A outer s H vs Q E hr h => ?_
  · unfold sp_House_strike at h
    obtain ⟨_, _, rfl, _⟩ := h
    rfl
  unfold sp_House_strike at h
  obtain ⟨G, tick, rfl, hg, hl, q⟩ := h
  refine ⟨_, (pss_one (ps_for passOwnE rfl (pi_list (pe_fld (pv 0) rfl)) (pg_name (i := 2) sc_House_strike.nd rfl (by first | exact .inl rfl | exact .inr rfl)) (pss_one (ps_if (PW.pt (pw_and (pt_cmpR op_gt (pe_fld (pv 2) rfl) pe_int (nomark _)) (pw_and1 (pt_cmpR op_eq (pe_fld (pv 2) rfl) (pv 1) (nomark _))))) (pss_cons (ps_expr (pe_methR (pv 0) T.c_House T.m_House_added T.ok_House_added (rm hr) passE (pa_cons (pe_makeR T.mk_Job T.ok_Job___init__ (rm hr) rfl T.g_Job passE (pa_cons (pe_fld (pv 2) rfl) (pa_cons (pv 1) (pa_cons (pe_fld (pv 2) rfl) (pa_cons (pe_tup pa_nil) (pa_cons (pe_fld (pv 2) rfl) pa_nil)))))) pa_nil)))
      (pss_cons (ps_fldaug (pv 2) pe_int in_sub)
      (pss_one (ps_fldaug (pv 2) (pe_fld (pv 2) rfl) in_add)))) pss_nil)))), ?_⟩
  refine ⟨_, rfl, T.hr_clocks hg ⟨_, rfl, ⟨_, SqL.of hg.cl⟩, for_list (xs := refs (·.a) G.clks) (fun i σ H' => ∃ (a : Option V) (Gi : HG), σ = [some (.ref G.p), some (.int tick), a] ∧ Stp K H G H' Gi ∧ Gi.cl = G.cl ∧ Gi.p = G.p ∧ refs (·.a) Gi.clks = refs (·.a) G.clks ∧
    i ≤ G.clks.length ∧ Gi.er = (List.range i).foldl (HouseS.strikeAt tick) G.er) ?_ ?_ ?_ ?_⟩⟩
  · exact ⟨_, G, rfl, .refl hg, rfl, rfl, rfl, Nat.zero_le _, rfl⟩
  · rintro i σ H' _ ⟨a, Gi, rfl, st, ecl, _, er, _⟩
    rw [← er, ← ecl]
    exact SqL.of st.at_.cl
  · rintro i v σ H' ev ⟨a, Gi, rfl, st, ecl, ep, er, hi, ei⟩
    have hi2 : i < G.clks.length := by
      have := (List.getElem?_eq_some_iff.mp ev).1
      simpa [refs] using this
    rw [← er] at ev
    obtain ⟨c, egi, rfl⟩ : ∃ c, Gi.clks[i]? = some c ∧ V.ref c.a = v := by
      unfold refs at ev
      rw [List.getElem?_map] at ev
      cases e : Gi.clks[i]? with
      | none => rw [e] at ev; cases ev
      | some gi => rw [e] at ev; exact ⟨gi, rfl, Option.some.inj ev⟩
    have hgi := st.at_
    have hc := hgi.clks c (List.mem_of_getElem? egi)
    have ejl : Gi.jobs.length < 1000000 := by
      have h1 := strike_len tick (List.range i) G.er
      rw [← ei, er_len, er_len, List.length_range] at h1
      omega
    have nxt : (List.range (i + 1)).foldl (HouseS.strikeAt tick) G.er = HouseS.strikeAt tick Gi.er i := by
      rw [List.range_succ, List.foldl_append, ← ei]
      rfl
    have es : HouseS.strikeAt tick Gi.er i = if c.left > 0 ∧ c.coming = tick then { Gi.er.newJob c.rank tick c.steps [] c.tries with clks := Gi.er.clks.set i { c.toClockS with left := c.left - 1, coming := c.coming + c.every } } else Gi.er := by
      unfold HouseS.strikeAt
      rw [er_clk, egi]
      rfl
    rw [es] at nxt
    refine ⟨_, rfl, T.cr_left hc ⟨_, _, rfl, rfl, _, rfl, ?_⟩⟩
    by_cases h1 : c.left > 0
    · refine dT h1 ?_
      refine ⟨_, rfl, T.cr_coming hc ⟨_, rfl, rfl, _, rfl, ?_⟩⟩
      by_cases h2 : c.coming = tick
      · rw [if_pos ⟨h1, h2⟩] at nxt
        refine dT (by rw [h2]) ?_
        rw [← ep]
        refine ⟨_, rfl, hm hgi (by kernel_rfl) ⟨_, rfl, T.cr_rank hc ⟨_, rfl, _, rfl, T.cr_steps hc ⟨by show 0 ≤ sizeLine; decide, fun e he => ?_⟩⟩⟩⟩
        have sa := same_new (o := .tup []) he
        have hca := (hgi.same sa).clks c (List.mem_of_getElem? egi)
        refine ⟨_, rfl, T.cr_tries hca (fun x dx hx hdx hne => ?_)⟩
        refine newJob_ok (steps := c.steps) (needs := []) upd_same ⟨rfl, ?_⟩
        rw [upd_upd]
        have sb : Same (upd H' e (.tup [])) (upd (upd (upd H' e (.tup [])) dx (.own x)) x (.ins (cJ K) dx (jobFs ⟨⟨c.rank, tick, c.steps, [], c.tries, 0, 0, 0, none, none, 0⟩, x, dx, c.t, e⟩))) := Same.trans' (same_new hdx) (same_new (by rw [upd_ne hne.symm]; exact hx))
        refine added_ok (g := ⟨⟨c.rank, tick, c.steps, [], c.tries, 0, 0, 0, none, none, 0⟩, x, dx, c.t, e⟩) hgi (Same.trans' sa sb) ⟨upd_same, KeepT.same sb _ _ hca.st, KeepT.same sb _ _ (SqT.of upd_same)⟩ (none_same sa hx) ejl fun H5 G5 s5 e5 ec5 ecl5 => ?_
        have eg5 : G5.clks[i]? = some c := by rw [ec5]; exact egi
        have hc5 := s5.at_.clks c (List.mem_of_getElem? eg5)
        refine ⟨_, rfl, T.ca_left hc5 ⟨_, _, rfl, rfl, cp_left hc5 (c.left - 1) rfl ?_⟩⟩
        have s6 := stp_setK s5.at_ eg5 (j := { c.toClockS with left := c.left - 1 }) rfl
        have eg6 : (G5.clks.set i (c.W { c.toClockS with left := c.left - 1 }))[i]? = some (c.W { c.toClockS with left := c.left - 1 }) := List.getElem?_set_self (List.getElem?_eq_some_iff.mp eg5).1
        have hc6 := s6.at_.clks _ (List.mem_of_getElem? eg6)
        refine ⟨_, rfl, T.ca_coming hc6 ⟨_, rfl, T.cr_every hc6 ⟨_, _, rfl, rfl, cp_coming hc6 (c.coming + c.every) rfl ?_⟩⟩⟩
        have s7 := stp_setK s6.at_ eg6 (j := { c.toClockS with left := c.left - 1, coming := c.coming + c.every }) rfl
        refine ⟨_, _, rfl, st.trans (s5.trans (s6.trans s7)), ecl5.trans ecl, s5.p, ?_, hi2, ?_⟩
        · show refs (·.a) ((G5.clks.set i (c.W { c.toClockS with left := c.left - 1 })).set i ((c.W { c.toClockS with left := c.left - 1 }).W { c.toClockS with left := c.left - 1, coming := c.coming + c.every })) = _
          exact (refs_setK (g' := (c.W { c.toClockS with left := c.left - 1 }).W { c.toClockS with left := c.left - 1, coming := c.coming + c.every }) eg6 rfl).trans ((refs_setK (g' := c.W { c.toClockS with left := c.left - 1 }) eg5 rfl).trans (by rw [ec5]; exact er))
        · rw [nxt]
          have e7 := er_setK (G := { G5 with clks := G5.clks.set i (c.W { c.toClockS with left := c.left - 1 }) }) (i := i) (c := c.W { c.toClockS with left := c.left - 1 }) (j := { c.toClockS with left := c.left - 1, coming := c.coming + c.every })
          rw [e7, er_setK, e5]
          show ({ Gi.er with jobs := _, clks := (Gi.er.clks.set i _).set i _ } : HouseS) = _
          rw [List.set_set]
          rfl
      · rw [if_neg (fun z => h2 z.2)] at nxt
        exact dF (by simpa using h2) ⟨_, Gi, rfl, st, ecl, ep, er, hi2, by rw [nxt]⟩
    · rw [if_neg (fun z => h1 z.1)] at nxt
      exact dF h1 ⟨_, Gi, rfl, st, ecl, ep, er, hi2, by rw [nxt]⟩
  · rintro σ H' ⟨a, Gi, rfl, st, _, _, _, _, ei⟩
    refine q H' Gi st ?_
    rw [ei]
    unfold HouseS.strike
    have e1 : (refs (·.a) G.clks).length = G.er.clks.length := by simp [refs, HG.er]
    rw [e1]
end LH
end

section
set_option Elab.async false
set_option linter.all false
set_option maxRecDepth 100000
set_option maxHeartbeats 4000000
set_option pp.maxSteps 1500
namespace LH
open PySem PySem.Spec PyProof.Rows L2 StX LamX
variable {P : Program} {w : World} {K : PySem.W.Frag} {mg : Str → Option Value} {base : Heap}
theorem deep_nil (js : List JobS) : ∀ d, Deep js d []
  | 0 => rfl
  | d + 1 => fun n hn => by cases hn
theorem Deep.up {js : List JobS} : ∀ {d : Nat} {ns : List Nat}, Deep js d ns → Deep js (d + 1) ns
  | 0, ns, h => by
    rw [show ns = [] from h]
    exact deep_nil js 1
  | d + 1, ns, h => fun n hn => by
    obtain ⟨o, eo, ho⟩ := h n hn
    exact ⟨o, eo, ho.up⟩
theorem Deep.le {js : List JobS} {d e : Nat} {ns : List Nat} (h : Deep js d ns) (hd : d ≤ e) : Deep js e ns := by
  induction hd with
  | refl => exact h
  | step _ ih => exact ih.up
def needyN (l : List JobS) : Nat := (l.filter fun j => decide (j.needs ≠ [])).length
theorem needy_le (l : List JobS) (i k : Nat) (h : i ≤ k) : needyN (l.take i) ≤ needyN (l.take k) := by
  unfold needyN
  have e : l.take i = (l.take k).take i := by rw [List.take_take, Nat.min_eq_left h]
  rw [e]
  exact List.Sublist.length_le ((List.take_sublist _ _).filter _)
theorem deep_of {js : List JobS} (ok : ∀ (i : Nat) (j : JobS), js[i]? = some j → ∀ n ∈ j.needs, n < i) : ∀ (m i : Nat), i ≤ m → ∀ j, js[i]? = some j → Deep js (needyN (js.take (i + 1))) j.needs := by
  intro m
  induction m with
  | zero =>
    intro i hi j ej
    have e : j.needs = [] := by
      cases hn : j.needs with
      | nil => rfl
      | cons n r =>
        have := ok i j ej n (by rw [hn]; exact List.mem_cons_self)
        omega
    rw [e]
    exact deep_nil js _
  | succ m ih =>
    intro i hi j ej
    by_cases e : j.needs = []
    · rw [e]
      exact deep_nil js _
    · have ec : needyN (js.take (i + 1)) = needyN (js.take i) + 1 := by
        unfold needyN
        rw [List.take_succ, ej, List.filter_append, List.length_append]
        simp [e]
      rw [ec]
      intro n hn
      have hlt := ok i j ej n hn
      have hil := (List.getElem?_eq_some_iff.mp ej).1
      refine ⟨js[n]'(by omega), List.getElem?_eq_getElem (by omega), ?_⟩
      exact (ih n (by omega) _ (List.getElem?_eq_getElem (by omega))).le (needy_le js (n + 1) i hlt)
theorem ok_deep {h : HouseS} (ok : HouseOk h) {i : Nat} {j : JobS} (e : h.jobs[i]? = some j) : Deep h.jobs 128 j.needs := by
  refine (deep_of (fun i j e => (ok.jobs i j e).2.2.1) i i (Nat.le_refl _) j e).le ?_
  have h1 := needy_le h.jobs (i + 1) (max (i + 1) h.jobs.length) (Nat.le_max_left _ _)
  rw [List.take_of_length_le (Nat.le_max_right (i + 1) h.jobs.length)] at h1
  have h2 : needyN h.jobs ≤ 120 := ok.needy
  omega
theorem shown_ok {l : LeaseG} {H : Hp} {Q : VK} {E : XK} (hl : LeaseAt K H l) (q : ∀ t, H t = none → Q (.ref t) (upd H t (.tup [.int (l.num : Int), .int (l.work : Int), .int (l.step : Int), .str l.worker, .int l.til]))) : sp_Lease_shown K [.ref l.a] H Q E := by
  unfold sp_Lease_shown
  exact ⟨l, rfl, hl, q⟩
@[irreducible] def sp_House_state (K : PySem.W.Frag) : Sp := fun vs H Q E => ∃ (G : HG) (n : Nat) (g : JobG), vs = [.ref G.p, .int (n : Int)] ∧ HouseAt K H G ∧ HouseOk G.er ∧ G.jobs[n]? = some g ∧ ∀ H' v, Same H H' → Dt K H' v (G.er.state n) → Q v H'
end LH
end

section
set_option Elab.async false
set_option linter.all false
set_option maxRecDepth 100000
set_option maxHeartbeats 4000000
set_option pp.maxSteps 1500
namespace LH
open PySem PySem.Spec PyProof.Rows L2 StX LamX
variable {P : Program} {w : World} {K : PySem.W.Frag} {mg : Str → Option Value} {base : Heap}
@[irreducible] def sp_House_log (K : PySem.W.Frag) : Sp := fun vs H Q E => ∃ G : HG, vs = [.ref G.p] ∧ HouseAt K H G ∧ G.log.length < 1000000 ∧ ∀ t, H t = none → Q (.ref t) (upd H t (.lst (G.log.map (·.1))))
theorem sc_House_log : FnScope ["self"] ["self"] (defScope s_House_log) := ⟨rfl, rfl, rfl, by decide +kernel, rfl, by decide +kernel, by decide +kernel⟩
theorem Tp.ok_House_log (T : Tp P w K mg base) : FnR P w K mg base (L2.CX P w) (0 + 1) (He.ma K (He.ga K "House") "log") (sp_House_log K) := by
  refine fnr (N := ["self"]) (ps := ["self"]) (k := 0) T.fd_House_log sc_House_log (fun _ _ _ _ _ _ us hl => match us, hl with | [_], _ => rfl) (fun vs H Q E h => ?_) fun cdv A outer s H vs Q E hr h => ?_
  · unfold sp_House_log at h
    obtain ⟨_, rfl, _⟩ := h
    rfl
  unfold sp_House_log at h
  obtain ⟨G, rfl, hg, hl, q⟩ := h
  refine ⟨_, (pss_one (ps_ret (pe_callTy call_list_of rfl T.f_list bt_list (pa_cons (pe_fld (pv 0) rfl) pa_nil)))), ?_⟩
  exact ⟨_, rfl, T.hr_entries hg ⟨_, _, rfl, .inl (SqL.of hg.el), q⟩⟩
@[irreducible] def sp_House_queue (K : PySem.W.Frag) : Sp := fun vs H Q E => ∃ (G : HG) (k : Str) (r : RowS), vs = [.ref G.p, .str k] ∧ HouseAt K H G ∧ HouseOk G.er ∧ G.age ≤ 1000000 ∧ Tabs (TT K) H ∧ isName k = true ∧ G.er.row k = some r ∧ ∀ H' t, Stp K H G H' G → t ∉ adr G → H' t = some (.lst (vnats (G.er.queue k))) → Q (.ref t) H'
theorem kind_ok' {G : HG} {k : Str} {r : RowS} {H : Hp} {Q : VK} {E : XK} (hg : HouseAt K H G) (hk : isName k = true) (hr' : G.er.row k = some r) (q : ∀ H', Same H H' → Q .non H') : sp_House_need_kind K [.ref G.p, .str k] H Q E := by
  unfold sp_House_need_kind
  exact ⟨G, k, r, rfl, hg, hk, hr', q⟩
theorem order_rng {G : HG} {n : Nat} (hn : n ∈ G.er.order) : ∃ g, G.jobs[n]? = some g := by
  rw [HouseS.order_eq] at hn
  have h1 := (List.mem_mergeSort).mp hn
  unfold HouseS.ready at h1
  have hlt := List.mem_range.mp (List.mem_filter.mp h1).1
  rw [er_len] at hlt
  exact ⟨_, List.getElem?_eq_getElem hlt⟩
theorem order_len (h : HouseS) : h.order.length ≤ h.jobs.length := by
  rw [HouseS.order_eq]
  unfold HouseS.ready
  rw [List.length_mergeSort]
  have := List.length_filter_le (fun n => match h.jobs[n]? with | none => false | some j => h.isReady j) (List.range h.jobs.length)
  rw [List.length_range] at this
  exact this
theorem state_ok {G : HG} {n : Nat} {g : JobG} {H : Hp} {Q : VK} {E : XK} (hg : HouseAt K H G) (ok : HouseOk G.er) (eg : G.jobs[n]? = some g) (q : ∀ H' v, Same H H' → Dt K H' v (G.er.state n) → Q v H') : sp_House_state K [.ref G.p, .int (n : Int)] H Q E := by
  unfold sp_House_state
  exact ⟨G, n, g, rfl, hg, ok, eg, q⟩
theorem state_shape {G : HG} (ok : HouseOk G.er) {n : Nat} {g : JobG} (eg : G.jobs[n]? = some g) : ∃ x r, G.er.state n = .tuple (.str x :: r) := by
  unfold HouseS.state
  rw [er_job, eg]
  simp only [Option.map_some]
  cases he : g.ended with
  | some x => exact ⟨_, _, rfl⟩
  | none =>
    cases hh : g.held with
    | some m =>
      obtain ⟨l, el, _⟩ := held_lease ok eg hh
      simp only
      rw [er_lease_some el]
      exact ⟨_, _, rfl⟩
    | none =>
      simp only
      split
      · exact ⟨_, _, rfl⟩
      · split
        · exact ⟨_, _, rfl⟩
        · split <;> exact ⟨_, _, rfl⟩
@[irreducible] def sp_House_why (K : PySem.W.Frag) : Sp := fun vs H Q E => ∃ (G : HG) (x : Str) (z : StaffG) (n : Nat) (g : JobG), vs = [.ref G.p, .str x, .int (n : Int)] ∧ HouseAt K H G ∧ HouseOk G.er ∧ isName x = true ∧ (G.staff.find? fun l => decide (l.name = x)) = some z ∧ G.jobs[n]? = some g ∧
  ∀ H' G' v, Stp K H G H' G' → G'.er = (G.er.why x n).2 → Dt K H' v (G.er.why x n).1 → Q v H'
end LH
end

section
set_option Elab.async false
set_option linter.all false
set_option maxRecDepth 100000
set_option maxHeartbeats 4000000
set_option pp.maxSteps 1500
namespace LH
open PySem PySem.Spec PyProof.Rows L2 StX LamX
variable {P : Program} {w : World} {K : PySem.W.Frag} {mg : Str → Option Value} {base : Heap}
theorem atonce_ok {G : HG} {k : Str} {r : RowS} {H : Hp} {Q : VK} {E : XK} (hg : HouseAt K H G) (hr' : G.er.row k = some r) (q : Q (.int r.cnt) H) : sp_Limits_at_once K [.ref G.lim, .str k] H Q E := by
  unfold sp_Limits_at_once
  exact ⟨G, k, r, rfl, hg, hr', q⟩
@[irreducible] def sp_House_limits_of (K : PySem.W.Frag) : Sp := fun vs H Q E => ∃ (G : HG) (k : Str) (r : RowS), vs = [.ref G.p, .str k] ∧ HouseAt K H G ∧ HouseOk G.er ∧ isName k = true ∧ G.er.row k = some r ∧ ∀ H' G' v, Stp K H G H' G' → G'.er = (G.er.limitsOf k).2 → Dt K H' v (G.er.limitsOf k).1 → Q v H'
end LH
end

section
set_option Elab.async false
set_option linter.all false
set_option maxRecDepth 100000
set_option maxHeartbeats 4000000
set_option pp.maxSteps 1500
namespace LH
open PySem PySem.Spec PyProof.Rows L2 StX LamX PySem.W
variable {P : Program} {w : World} {K : PySem.W.Frag} {mg : Str → Option Value} {base : Heap}
/-- a comprehension over a dict's values whose things are data -/
theorem lcVD {α : Type} {g : TG} {te : TE} {vs : List Nat} {σ : L2.St} {H : Hp} {Q : VK} {d : Addr} {kvs : List (Key × V)} {td : TE} (l : List α) (val : α → V) (enc : α → PyData) (ex : kvs.map (·.2) = l.map val) (hd0 : H d = some (.dK kvs)) (hz : l.length < sizeLine)
    (htd : ∀ od R, R (.ref d) (upd H d (.frz od (.dK kvs))) → td σ (upd H d (.frz od (.dK kvs))) R)
    (hs : ∀ (od : Obj) (i : Nat) (b : α) (Hc : Hp) (R : VK), l[i]? = some b → Same (upd H d (.frz od (.dK kvs))) Hc → (∀ y H4, Dt K H4 y (enc b) → Same Hc H4 → R y H4) →
      g (val b) (wipe σ vs) Hc fun σ2 H2 => wipe σ2 vs = wipe σ vs ∧ te σ2 H2 R)
    (hd : ∀ D H' zs, H D = none → Same H H' → H' D = some (.lst zs) → Dts K H' zs (l.map enc) → Q (.ref D) H') : tLockE (tLc (iVals td) g tYes te vs) σ H Q := by
  refine ⟨d, .dK kvs, hd0, trivial, fun od => htd od _ ⟨d, od, kvs, rfl, upd_same, fun D hn => ?_⟩⟩
  have hl : kvs.length = l.length := by simpa using congrArg List.length ex
  have hnd : D ≠ d := fun z => by rw [z, upd_same] at hn; cases hn
  have hn' : H D = none := by rw [upd_ne hnd] at hn; exact hn
  have sameH : ∀ H', Same (upd H d (.frz od (.dK kvs))) H' → Same H (upd H' d (.dK kvs)) := fun H' s b o e => by
    by_cases z : b = d
    · subst z
      rw [hd0] at e
      rw [upd_same, e]
    · rw [upd_ne z]
      exact s _ _ (by rw [upd_ne z]; exact e)
  refine lc_it (walk_values (kvs := kvs)) (fun i H' => Same (upd H d (.frz od (.dK kvs))) H' ∧ ∃ acc, H' D = some (.lst acc) ∧ acc.length = i ∧ Dts K H' acc ((l.take i).map enc)) ⟨same_new hn, [], upd_same, rfl, .nil⟩ (fun i H' _ q => q.1 _ _ upd_same) ?_ ?_
  · rintro i x Hc Hc' hi ⟨s, acc, ea, el, da⟩ ⟨rfl, k, ey⟩
    have e2 : (kvs.map (·.2))[i]? = some x := by rw [List.getElem?_map, ey]; rfl
    rw [ex, List.getElem?_map] at e2
    cases eb : l[i]? with
    | none => rw [eb] at e2; cases e2
    | some b =>
      rw [eb] at e2
      obtain rfl : val b = x := Option.some.inj e2
      refine hs od i b _ _ eb s fun y H4 dy s4 => ?_
      have hn4 : H4 D = some (.lst acc) := s4 _ _ ea
      have kp : KeepT K H4 (upd H4 D (.lst (acc ++ [y]))) := KeepT.upd hn4 trivial
      refine ⟨acc, hn4, by omega, Same.put (Same.trans' s s4) hn, acc ++ [y], upd_same, by rw [List.length_append, el]; rfl, ?_⟩
      rw [List.take_succ, eb, List.map_append]
      exact dts_snoc (Dts.keep kp (Dts.keep (KeepT.same s4) da)) (dy.keep kp)
  · rintro H' ⟨s, acc, ea, el, da⟩
    rw [hl, List.take_length] at da
    have hD : (upd H' d (.dK kvs)) D = some (.lst acc) := by rw [upd_ne hnd]; exact ea
    have kp : KeepT K H' (upd H' d (.dK kvs)) := fun a xs q => by
      have ne : ∀ o, H' a = some o → (∀ o2, o ≠ .frz od o2 ∨ o2 ≠ .dK kvs) → a ≠ d := fun o e nf z => by
        rw [z, s _ _ upd_same] at e
        rcases nf (.dK kvs) with h | h
        · exact h (Option.some.inj e).symm
        · exact h rfl
      rcases q with (q | ⟨ob, q⟩) | q
      · exact .inl (.inl (by rw [upd_ne (ne _ q fun o2 => .inl fun z => nomatch z)]; exact q))
      · refine .inl (.inr ⟨ob, ?_⟩)
        rw [upd_ne (ne _ q fun o2 => ?_)]
        · exact q
        · by_cases h : o2 = .dK kvs
          · exact .inl fun z => by
              rw [h] at z
              cases z
          · exact .inr h
      · exact .inr q
    exact ⟨s _ _ upd_same, hd D _ acc hn' (sameH _ s) hD (da.keep kp)⟩
theorem dts_zip {H : Hp} : ∀ {zs : List V} {ds : List PyData}, Dts K H zs ds → ∀ b ∈ zs.zip ds, Dt K H b.1 b.2
  | _, _, .nil => fun b hb => by cases hb
  | _, _, .cons h t => fun b hb => by
    rw [List.zip_cons_cons] at hb
    rcases List.mem_cons.mp hb with e | hb
    · rw [e]
      exact h
    · exact dts_zip t b hb
theorem zip_sort {α : Type} (enc : α → PyData) (l : List α) : (l.mergeSort (dataLe false enc)).map enc = (l.map enc).mergeSort (dataLe false id) := by
  rw [List.map_mergeSort]
  intro a _ b _
  rfl
@[irreducible] def sp_House_leases (K : PySem.W.Frag) : Sp := fun vs H Q E => ∃ G : HG, vs = [.ref G.p] ∧ HouseAt K H G ∧ G.cnt.length < 1000000 ∧ ∀ H' t zs ds, Same H H' → H' t = some (.lst zs) → G.er.leases = .list ds → Dts K H' zs ds → Q (.ref t) H'
theorem sc_House_leases : FnScope ["self", "lease"] ["self"] (defScope s_House_leases) := ⟨rfl, rfl, rfl, by decide +kernel, rfl, by decide +kernel, by decide +kernel⟩
theorem Tp.ok_House_leases (T : Tp P w K mg base) : FnR P w K mg base (L2.CX P w) (2 + 1) (He.ma K (He.ga K "House") "leases") (sp_House_leases K) := by
  refine fnr (N := ["self", "lease"]) (ps := ["self"]) (k := 2) T.fd_House_leases sc_House_leases (fun _ _ _ _ _ _ us hl => match us, hl with | [_], _ => rfl) (fun vs H Q E h => ?_) fun cdv A outer s H vs Q E hr h => ?_
  · unfold sp_House_leases at h
    obtain ⟨_, rfl, _⟩ := h
    rfl
  unfold sp_House_leases at h
  obtain ⟨G, rfl, hg, hl, q⟩ := h
  refine ⟨_, (pss_one (ps_ret (pe_callB (cr_sortD hr) rfl T.f_sorted bt_sorted (pa_cons (pe_lock (pe_lc (own := [("lease", 1)]) rfl sc_House_leases.nd (pi_values (pe_fld (pv 0) rfl)) (blkOk_by (own := [("lease", 1)]) (N := ["self", "lease"]) (sc := defScope s_House_leases) (by decide +kernel)) (fun _ _ _ _ _ => (pg_name (i := 1) sc_House_leases.nd rfl (by first | exact .inl rfl | exact .inr rfl))) (fun _ _ _ _ _ => pts_nil) (fun _ _ _ _ _ => (pe_methR0 (pv 1) T.c_Lease T.m_Lease_shown T.ok_Lease_shown (rm hr) passL)))) pa_nil)))), ?_⟩
  have hz := nlt
  refine lcVD (K := K) G.cnt (fun l => V.ref l.a) (fun l => HouseS.leaseD l.toLeaseS) (by unfold cntD; rw [List.map_map]; rfl) hg.cd (by omega) ?_ ?_ ?_
  · intro od R r
    exact ⟨_, rfl, _, _, _, _, _, rfl, (upd_ne (hg.ap.ne (i := 0) (j := 4) (by decide))).trans hg.ob, T.c_House, T.n_House_counting, house_counting G, r⟩
  · intro od i l Hc R el s k1
    have hla := lease_lk hg s (List.mem_of_getElem? el)
    exact ⟨rfl, ⟨_, rfl, em hla (by kernel_rfl) (shown_ok hla fun t ht => k1 _ _ (.tup (SqT.of upd_same) (.cons (.int _) (.cons (.int _) (.cons (.int _) (.cons (.str _) (.cons (.int _) .nil)))))) (same_new ht))⟩⟩
  · intro D H' zs _ s e ds
    have hlen := Dts.len ds
    have e1 : (zs.zip (G.cnt.map fun l : LeaseG => HouseS.leaseD l.toLeaseS)).map Prod.fst = zs := List.map_fst_zip (by omega)
    have e2 : (zs.zip (G.cnt.map fun l : LeaseG => HouseS.leaseD l.toLeaseS)).map Prod.snd = G.cnt.map fun l : LeaseG => HouseS.leaseD l.toLeaseS := List.map_snd_zip (by omega)
    have hd := dts_zip ds
    refine ⟨D, V × PyData, Prod.fst, Prod.snd, zs.zip (G.cnt.map fun l : LeaseG => HouseS.leaseD l.toLeaseS), rfl, SqL.of (by rw [e1]; exact e), hd, ?_, ?_, ?_, fun p hp => ?_⟩
    · rw [e2]
      intro d hd d' hd'
      obtain ⟨a, _, rfl⟩ := List.mem_map.mp hd
      obtain ⟨b, _, rfl⟩ := List.mem_map.mp hd'
      rfl
    · rw [e2]
      refine .inl fun d hd => ?_
      obtain ⟨a, _, rfl⟩ := List.mem_map.mp hd
      exact ⟨_, _, rfl⟩
    · intro b hb
      have h1 : b.2 ∈ (zs.zip (G.cnt.map fun l : LeaseG => HouseS.leaseD l.toLeaseS)).map Prod.snd := List.mem_map_of_mem hb
      rw [e2] at h1
      obtain ⟨a, _, ea⟩ := List.mem_map.mp h1
      rw [← ea]
      simp only [HouseS.leaseD, PyData.depth, PyData.depthAll]
      omega
    · refine q _ p _ (((G.cnt.map fun l : LeaseG => HouseS.leaseD l.toLeaseS)).mergeSort (dataLe false id)) (Same.trans' s (same_new hp)) upd_same ?_ ?_
      · rw [HouseS.leases_eq, zip_sort]
        unfold HG.er
        simp only [List.map_map]
        rfl
      · have h1 := dts_of (K := K) (H := upd H' p (.lst (((zs.zip (G.cnt.map fun l : LeaseG => HouseS.leaseD l.toLeaseS)).mergeSort (dataLe false Prod.snd)).map Prod.fst))) (v := Prod.fst) (enc := Prod.snd) (bs := (zs.zip (G.cnt.map fun l : LeaseG => HouseS.leaseD l.toLeaseS)).mergeSort (dataLe false Prod.snd)) fun b hb => (hd b (List.mem_mergeSort.mp hb)).keep (KeepT.same (same_new hp))
        rw [zip_sort, e2] at h1
        exact h1
end LH
end

section
set_option Elab.async false
set_option linter.all false
set_option maxRecDepth 100000
set_option maxHeartbeats 4000000
set_option pp.maxSteps 1500
namespace LH
open PySem PySem.Spec PyProof.Rows L2 StX LamX
variable {P : Program} {w : World} {K : PySem.W.Frag} {mg : Str → Option Value} {base : Heap}
@[irreducible] def sp_Clock___init__ (K : PySem.W.Frag) : Sp := fun vs H Q E => ∃ (x dx t : Addr) (rank tries first every many : Int) (steps : List Str), vs = [.ref x, .int rank, .ref t, .int tries, .int first, .int every, .int many] ∧ H x = some (.ins (cC K) dx []) ∧
  Q .non (upd H x (.ins (cC K) dx (clockFs ⟨⟨rank, steps, tries, first, every, many⟩, x, dx, t⟩)))
theorem sc_Clock___init__ : FnScope ["self", "rank", "steps", "tries", "first", "every", "many"] ["self", "rank", "steps", "tries", "first", "every", "many"] (defScope s_Clock___init__) := ⟨rfl, rfl, rfl, by decide +kernel, rfl, by decide +kernel, by decide +kernel⟩
theorem Tp.ok_Clock___init__ (T : Tp P w K mg base) : FnR P w K mg base (L2.CX P w) (0 + 1) (He.ma K (He.ga K "Clock") "__init__") (sp_Clock___init__ K) := by
  refine fnr (N := ["self", "rank", "steps", "tries", "first", "every", "many"]) (ps := ["self", "rank", "steps", "tries", "first", "every", "many"]) (k := 0) T.fd_Clock___init__ sc_Clock___init__ (fun _ _ _ _ _ _ us hl => match us, hl with | [_, _, _, _, _, _, _], _ => rfl) (fun vs H Q E h => ?_) fun cdv A outer s H vs Q E hr h => ?_
  · unfold sp_Clock___init__ at h
    obtain ⟨_, _, _, _, _, _, _, _, _, rfl, _⟩ := h
    rfl
  unfold sp_Clock___init__ at h
  obtain ⟨x, dx, t, rank, tries, first, every, many, steps, rfl, hx, q⟩ := h
  refine ⟨_, (pss_cons (ps_fld (pv 0) (pv 1) rfl)
      (pss_cons (ps_fld (pv 0) (pv 2) rfl)
      (pss_cons (ps_fld (pv 0) (pv 3) rfl)
      (pss_cons (ps_fld (pv 0) (pv 4) rfl)
      (pss_cons (ps_fld (pv 0) (pv 5) rfl)
      (pss_one (ps_fld (pv 0) (pv 6) rfl))))))), ?_⟩
  refine ⟨_, rfl, _, rfl, w0 hx T.c_Clock T.n_Clock_rank (Nat.le_of_ble_eq_true (by kernel_rfl)) ?_⟩
  refine ⟨_, rfl, _, rfl, w0 upd_same T.c_Clock T.n_Clock_steps (Nat.le_of_ble_eq_true (by kernel_rfl)) ?_⟩
  refine ⟨_, rfl, _, rfl, w0 upd_same T.c_Clock T.n_Clock_tries (Nat.le_of_ble_eq_true (by kernel_rfl)) ?_⟩
  refine ⟨_, rfl, _, rfl, w0 upd_same T.c_Clock T.n_Clock_coming (Nat.le_of_ble_eq_true (by kernel_rfl)) ?_⟩
  refine ⟨_, rfl, _, rfl, w0 upd_same T.c_Clock T.n_Clock_every (Nat.le_of_ble_eq_true (by kernel_rfl)) ?_⟩
  refine ⟨_, rfl, _, rfl, w0 upd_same T.c_Clock T.n_Clock_left (Nat.le_of_ble_eq_true (by kernel_rfl)) ?_⟩
  simp only [upd_upd]
  have e : putF ("left" : Str) (V.int many) (putF ("every" : Str) (V.int every) (putF ("coming" : Str) (V.int first) (putF ("tries" : Str) (V.int tries) (putF ("steps" : Str) (V.ref t) (putF ("rank" : Str) (V.int rank) []))))) = clockFs ⟨⟨rank, steps, tries, first, every, many⟩, x, dx, t⟩ := by kernel_rfl
  rw [e]
  exact q
theorem newClock_ok {x dx t : Addr} {rank tries first every many : Int} {steps : List Str} {H : Hp} {Q : VK} {E : XK} (hx : H x = some (.ins (cC K) dx [])) (q : Q .non (upd H x (.ins (cC K) dx (clockFs ⟨⟨rank, steps, tries, first, every, many⟩, x, dx, t⟩)))) :
    sp_Clock___init__ K [.ref x, .int rank, .ref t, .int tries, .int first, .int every, .int many] H Q E := by
  unfold sp_Clock___init__
  exact ⟨x, dx, t, rank, tries, first, every, many, steps, rfl, hx, q⟩
/-- a new clock stands at the end -/
theorem stp_putK {H : Hp} {G : HG} {c : ClockG} (hg : HouseAt K H G) (hc : ClockAt K H c) (hn : c.a ∉ adr G) {H0 : Hp} {G0 : HG} (s0 : Stp K H0 G0 H G) (hn0 : H0 c.a = none) : Stp K H0 G0 (upd H G.cl (.lst (refs (·.a) G.clks ++ [.ref c.a]))) { G with clks := G.clks ++ [c] } := by
  refine ⟨hg.putK hc hn, ⟨fun b o e nt na => ?_, fun tb => tabs_upd hg.cl trivial (s0.fr.tabs tb)⟩, s0.base, s0.jobs⟩
  obtain ⟨h1, h2⟩ := s0.fr.keep b o e nt na
  have hb : b ≠ G.cl := fun z => h2 (by rw [z]; exact b0 (i := 6))
  refine ⟨(upd_ne hb).trans h1, fun z => ?_⟩
  unfold adr at z h2
  simp only [List.mem_append] at z h2
  rcases z with z | z | z | z | z
  · exact h2 (.inl z)
  · exact h2 (.inr (.inl z))
  · exact h2 (.inr (.inr (.inl z)))
  · exact h2 (.inr (.inr (.inr (.inl z))))
  · unfold pa4 at z
    rw [List.map_append, List.mem_append] at z
    rcases z with z | z
    · exact h2 (.inr (.inr (.inr (.inr z))))
    · have : b = c.a := by simpa using z
      rw [this, hn0] at e
      cases e
theorem er_putK {G : HG} {c : ClockG} : HG.er { G with clks := G.clks ++ [c] } = { G.er with clks := G.er.clks ++ [c.toClockS] } := by
  unfold HG.er
  simp
theorem count_ok {i lo hi : Int} {H : Hp} {Q : VK} {E : XK} (h : lo ≤ i ∧ i ≤ hi) (q : Q .non H) : sp_need_count K [.int i, .int lo, .int hi] H Q E := by
  unfold sp_need_count
  exact ⟨i, lo, hi, rfl, fun _ => q, fun n => absurd h n⟩
theorem strike_ok {G : HG} {tick : Int} {H : Hp} {Q : VK} {E : XK} (hg : HouseAt K H G) (hl : G.jobs.length + G.clks.length < 1000000) (q : ∀ H' G', Stp K H G H' G' → G'.er = G.er.strike tick → Q .non H') : sp_House_strike K [.ref G.p, .int tick] H Q E := by
  unfold sp_House_strike
  exact ⟨G, tick, rfl, hg, hl, q⟩
theorem strike_clks (tick : Int) : ∀ (l : List Nat) (h : HouseS), (l.foldl (HouseS.strikeAt tick) h).clks.length = h.clks.length
  | [], h => rfl
  | i :: l, h => by
    have h1 := strike_clks tick l (HouseS.strikeAt tick h i)
    rw [List.foldl_cons, h1]
    unfold HouseS.strikeAt
    split
    · rfl
    · split
      · simp
      · rfl
theorem er_clks_len (G : HG) : G.er.clks.length = G.clks.length := by simp [HG.er]
@[irreducible] def sp_House_clock (K : PySem.W.Frag) : Sp := fun vs H Q E => ∃ (G : HG) (rank first every many tries : Int) (t : Addr) (steps : List Str), vs = [.ref G.p, .int rank, .ref t, .int first, .int every, .int many, .int tries] ∧ HouseAt K H G ∧ G.jobs.length + G.clks.length < 900000 ∧ G.log.length < 1000000 ∧
  (0 ≤ rank ∧ rank ≤ 9) ∧ SqT K H t (vstrs steps) ∧ (1 ≤ steps.length ∧ steps.length ≤ 5) ∧ (∀ x ∈ steps, isName x = true ∧ ∃ r, G.er.row x = some r) ∧ (G.here ≤ first ∧ first ≤ 99999) ∧ (1 ≤ every ∧ every ≤ 999) ∧ (1 ≤ many ∧ many ≤ 99) ∧ (1 ≤ tries ∧ tries ≤ 9) ∧
  ∀ H' G', Stp K H G H' G' → G'.er = G.er.clock rank steps first every many tries → Q (.int (G.clks.length : Int)) H'
theorem sc_House_clock : FnScope ["self", "rank", "steps", "first", "every", "many", "tries"] ["self", "rank", "steps", "first", "every", "many", "tries"] (defScope s_House_clock) := ⟨rfl, rfl, rfl, by decide +kernel, rfl, by decide +kernel, by decide +kernel⟩
theorem Tp.okF_House_clock (T : Tp P w K mg base) {fd : FuncData} (F : FunD K "clock" "House.clock" (defArgs s_House_clock) (defBody s_House_clock) (defScope s_House_clock) (He.DefD.dvs K d_House_clock) (He.DefD.kws K d_House_clock) (He.ma K (He.ga K "House") "clock") fd) : FnOk P w K mg base (L2.CX P w) (3 + 1) (He.ma K (He.ga K "House") "clock") fd ["self", "rank", "steps", "first", "every", "many", "tries"] (sp_House_clock K) := by
  refine FunD.ok (N := ["self", "rank", "steps", "first", "every", "many", "tries"]) (k := 3) F sc_House_clock (fun vs H Q E h => ?_) fun cdv A outer s H vs Q E hr h => ?_
  · unfold sp_House_clock at h
    obtain ⟨_, _, _, _, _, _, _, _, rfl, _⟩ := h
    rfl
  unfold sp_House_clock at h
  obtain ⟨G, rank, first, every, many, tries, t, steps, rfl, hg, hjl, hll, hr1, hst, hsl, hsx, hf, hev, hma, htr, q⟩ := h
  refine ⟨_, (pss_cons (ps_expr (pe_callP T.ok_need_rank (rm hr) (kp_of T.fd_need_rank) rfl T.g_need_rank passE (pa_cons (pv 1) pa_nil)))
      (pss_cons (ps_expr (pe_callP T.ok_need_steps (rm hr) (kp_of T.fd_need_steps) rfl T.g_need_steps passE (pa_cons (pe_fld (pe_fld (pv 0) rfl) rfl) (pa_cons (pv 2) pa_nil))))
      (pss_cons (ps_expr (pe_callP T.ok_need_tick (rm hr) (kp_of T.fd_need_tick) rfl T.g_need_tick passE (pa_cons (pv 3) (pa_cons (pe_fld (pv 0) rfl) pa_nil))))
      (pss_cons (ps_expr (pe_callP T.ok_need_count (rm hr) (kp_of T.fd_need_count) rfl T.g_need_count passE (pa_cons (pv 4) (pa_cons pe_int (pa_cons (pe_gi rfl T.v_MOST_EVERY) pa_nil)))))
      (pss_cons (ps_expr (pe_callP T.ok_need_count (rm hr) (kp_of T.fd_need_count) rfl T.g_need_count passE (pa_cons (pv 5) (pa_cons pe_int (pa_cons (pe_gi rfl T.v_MOST_HOLD) pa_nil)))))
      (pss_cons (ps_expr (pe_callP T.ok_need_tries (rm hr) (kp_of T.fd_need_tries) rfl T.g_need_tries passE (pa_cons (pv 6) pa_nil)))
      (pss_cons (ps_expr (pe_methR (pv 0) T.c_House T.m_House_note T.ok_House_note (rm hr) passE (pa_cons (pe_tup (pa_cons pe_str (pa_cons (pv 1) (pa_cons (pv 2) (pa_cons (pv 3) (pa_cons (pv 4) (pa_cons (pv 5) (pa_cons (pv 6) pa_nil)))))))) pa_nil)))
      (pss_cons (ps_expr (pe_bm PySem.F.plainAttrs_list PySem.F.slot_list_append PySem.F.type_list_append mt_append (pe_fld (pv 0) rfl) (pa_cons (pe_makeR T.mk_Clock T.ok_Clock___init__ (rm hr) rfl T.g_Clock passE (pa_cons (pv 1) (pa_cons (pv 2) (pa_cons (pv 6) (pa_cons (pv 3) (pa_cons (pv 4) (pa_cons (pv 5) pa_nil))))))) pa_nil)))
      (pss_cons (ps_expr (pe_methR (pv 0) T.c_House T.m_House_strike T.ok_House_strike (rm hr) passE (pa_cons (pe_fld (pv 0) rfl) pa_nil)))
      (pss_one (ps_ret (pe_op op_sub (pe_callB call_len_seq rfl T.f_len bt_len (pa_cons (pe_fld (pv 0) rfl) pa_nil)) pe_int)))))))))))), ?_⟩
  refine ⟨_, rfl, rank_ok' hr1 ?_⟩
  refine ⟨_, rfl, T.hr_limits hg (T.mr_rows hg ⟨_, rfl, steps_ok hg.rd hst hsl (fun x hx => ⟨(hsx x hx).1, ?_⟩) fun H1 s1 => ?_⟩)⟩
  · obtain ⟨r, er'⟩ := (hsx x hx).2
    obtain ⟨i, g, e1, _⟩ := row_some er'
    rw [row_get, e1]
    rfl
  have hg1 := hg.same s1
  refine ⟨_, rfl, _, rfl, T.hr_here hg1 (tick_ok hf ⟨_, rfl, count_ok hev ⟨_, rfl, count_ok hma ⟨_, rfl, tries_ok htr ?_⟩⟩⟩)⟩
  refine ⟨_, rfl, hm hg1 (by kernel_rfl) ⟨_, rfl, _, rfl, _, rfl, _, rfl, _, rfl, _, rfl, by show 7 ≤ sizeLine; decide, fun u hu => ?_⟩⟩
  have s2 := Same.trans' s1 (same_new (o := .tup [.str (Str.ofString "clock"), .int rank, .ref t, .int first, .int every, .int many, .int tries]) hu)
  have k2 := KeepT.same (K := K) s2
  have hg2 := hg.same s2
  have dt : Dt K (upd H1 u (.tup [.str (Str.ofString "clock"), .int rank, .ref t, .int first, .int every, .int many, .int tries])) (.ref u) (.tuple [S' "clock", I' rank, .tuple (steps.map .str), I' first, I' every, I' many, I' tries]) :=
    .tup (SqT.of upd_same) (.cons (.str _) (.cons (.int _) (.cons (.tup (k2 _ _ hst) (dts_strs _)) (.cons (.int _) (.cons (.int _) (.cons (.int _) (.cons (.int _) .nil)))))))
  refine noted hg2 dt hll fun H3 G3 s3 e3 p3 j3 c3 ck3 _ h3 => ?_
  have hg3 := s3.at_
  have k3 : KeepT K H H3 := fun a xs z => (s3.fr.keepT hg2) a xs (k2 a xs z)
  rw [← p3]
  have hz := nlt
  have hcl : (refs (·.a) G3.clks).length < sizeLine := by
    simp only [refs, List.length_map]
    rw [ck3]
    omega
  refine ⟨_, rfl, T.hr_clocks hg3 ⟨.inl ⟨rfl, _, SqL.of hg3.cl⟩, _, rfl, _, rfl, _, rfl, _, rfl, _, rfl, _, rfl, fun x dx hx hdx hne => ?_⟩⟩
  refine newClock_ok (steps := steps) upd_same ⟨rfl, ?_⟩
  rw [upd_upd]
  have sb : Same H3 (upd (upd H3 dx (.own x)) x (.ins (cC K) dx (clockFs ⟨⟨rank, steps, tries, first, every, many⟩, x, dx, t⟩))) := Same.trans' (same_new hdx) (same_new (by rw [upd_ne hne.symm]; exact hx))
  have kb := KeepT.same (K := K) sb
  have hgb := hg3.same sb
  have hcb : ClockAt K (upd (upd H3 dx (.own x)) x (.ins (cC K) dx (clockFs ⟨⟨rank, steps, tries, first, every, many⟩, x, dx, t⟩))) ⟨⟨rank, steps, tries, first, every, many⟩, x, dx, t⟩ := ⟨upd_same, kb _ _ (k3 _ _ hst)⟩
  refine ⟨_, _, _, rfl, rfl, hgb.cl, hcl, ?_⟩
  have s4 := stp_putK hgb hcb (hg3.outN hx) (Stp.same hg3 sb) hx
  have hg4 := s4.at_
  refine ⟨_, rfl, hm hg4 (by kernel_rfl) ⟨_, rfl, T.hr_here hg4 (strike_ok (G := { G3 with clks := G3.clks ++ [⟨⟨rank, steps, tries, first, every, many⟩, x, dx, t⟩] }) hg4 ?_ fun H5 G5 s5 e5 => ?_)⟩⟩
  · simp only [List.length_append, List.length_singleton]
    rw [j3, ck3]
    omega
  have hg5 := s5.at_
  have p5 : G5.p = G3.p := s5.p
  rw [← p5]
  refine ⟨_, rfl, T.hr_clocks hg5 ⟨_, _, rfl, .inl (SqL.of hg5.cl), _, _, rfl, rfl, ?_⟩⟩
  have el : G5.clks.length = G.clks.length + 1 := by
    rw [← er_clks_len, e5]
    unfold HouseS.strike
    rw [strike_clks, er_clks_len]
    simp only [List.length_append, List.length_singleton]
    rw [ck3]
  have z := q H5 G5 ((Stp.same hg s2).trans (s3.trans (s4.trans s5))) ?_
  · have e6 : ((refs (·.a) G5.clks).length : Int) - 1 = (G.clks.length : Int) := by
      simp only [refs, List.length_map, el]
      omega
    show Q (.int (((refs (·.a) G5.clks).length : Int) - 1)) H5
    rw [e6]
    exact z
  · rw [e5, er_putK, e3]
    unfold HouseS.clock
    show HouseS.strike _ G3.here = _
    rw [h3]
    rfl
end LH
end

section
set_option Elab.async false
set_option linter.all false
set_option maxRecDepth 100000
set_option maxHeartbeats 4000000
/-! the plain house stays well formed -/
namespace LH
open PySem PySem.Spec PyProof.Rows L2
theorem filter_set_len {α : Type} (p : α → Bool) {l : List α} {i : Nat} {x y : α} (h : l[i]? = some x) (e : p y = p x) : ((l.set i y).filter p).length = (l.filter p).length := by
  induction l generalizing i with
  | nil => cases h
  | cons a l ih =>
    cases i with
    | zero =>
      obtain rfl : a = x := Option.some.inj h
      rw [List.set_cons_zero, List.filter_cons, List.filter_cons, e]
      split <;> rfl
    | succ i =>
      have z := ih (i := i) (by simpa using h)
      rw [List.set_cons_succ, List.filter_cons, List.filter_cons]
      split
      · rw [List.length_cons, List.length_cons, z]
      · exact z
theorem set_get {α : Type} {l : List α} {i k : Nat} {y z : α} (h : (l.set i y)[k]? = some z) : (k = i ∧ z = y ∧ i < l.length) ∨ (k ≠ i ∧ l[k]? = some z) := by
  rw [List.getElem?_set] at h
  by_cases e : i = k
  · rw [if_pos e] at h
    by_cases hl : i < l.length
    · rw [if_pos hl] at h
      exact .inl ⟨e.symm, (Option.some.inj h).symm, hl⟩
    · rw [if_neg hl] at h
      cases h
  · rw [if_neg e] at h
    exact .inr ⟨fun z => e z.symm, h⟩
theorem num_inj {l : List LeaseS} (nd : (l.map (·.num)).Nodup) {a b : LeaseS} (ha : a ∈ l) (hb : b ∈ l) (e : a.num = b.num) : a = b := by
  obtain ⟨i, hi, ei⟩ := List.getElem_of_mem ha
  obtain ⟨j, hj, ej⟩ := List.getElem_of_mem hb
  have z : (l.map (·.num))[i]'(by simpa using hi) = (l.map (·.num))[j]'(by simpa using hj) := by simp [ei, ej, e]
  have := (List.getElem_inj nd).mp z
  subst this
  exact ei.symm.trans ej
theorem HouseOk.closeJob {h : HouseS} (ok : HouseOk h) {l : LeaseS} {j : JobS} (hl : l ∈ h.cnt) (ej : h.jobs[l.work]? = some j) (f : JobS → JobS) (hs : (f j).steps = j.steps) (hn : (f j).needs = j.needs) (ht : (f j).tries ≤ 900) (hh : (f j).held = none)
    (ha : (1 ≤ (f j).most ∧ (f j).most ≤ 9) ∧ ((f j).tries : Int) ≤ (f j).most ∧ ((f j).ended = none → ((f j).tries : Int) < (f j).most)) : HouseOk ((h.closed l).jobUp l.work f) := by
  have ok1 := ok.rowUp j.kind (fun r => { r with cnt := r.cnt - 1 }) (fun _ => rfl) fun r hr _ => ok.sizes.2.2.2.2.2.2 r hr
  have e1 : (h.closed l).jobUp l.work f = { h.rowUp j.kind (fun r => { r with cnt := r.cnt - 1 }) with cnt := h.cnt.filter fun o => decide (o.num ≠ l.num), jobs := h.jobs.set l.work (f j) } := by
    unfold HouseS.closed
    rw [ej]
    unfold HouseS.jobUp
    show (match h.jobs[l.work]? with | none => _ | some j => _) = _
    rw [ej]
    rfl
  obtain ⟨_, j0, ej0, hj0⟩ := ok.cnt l hl
  rw [ej] at ej0
  obtain rfl := Option.some.inj ej0
  rw [e1]
  refine ⟨ok1.rows, fun i q e => ?_, fun o ho => ?_, ?_, fun i q m e hq => ?_, ok.staff, ok.pause, ?_, ⟨?_, ?_, ok.sizes.2.2.1, ok.sizes.2.2.2.1, ok.sizes.2.2.2.2.1, ok1.sizes.2.2.2.2.2.1, ok1.sizes.2.2.2.2.2.2⟩, fun i q e => ?_, ok1.clks, ?_⟩
  · rcases set_get e with ⟨rfl, rfl, _⟩ | ⟨_, e⟩
    · obtain ⟨a, b, c, d, g, _⟩ := ok1.jobs _ _ ej
      exact ⟨by rw [hs]; exact a, by rw [hs]; exact b, by rw [hn]; exact c, by rw [hn]; exact d, by rw [hs]; exact g, ht⟩
    · exact ok1.jobs i q e
  · obtain ⟨ho1, ho2⟩ := List.mem_filter.mp ho
    have ho2 : o.num ≠ l.num := by simpa using ho2
    obtain ⟨h1, q, eq, hq⟩ := ok.cnt o ho1
    refine ⟨h1, q, ?_, hq⟩
    have hne : o.work ≠ l.work := fun z => by
      rw [z, ej] at eq
      rw [← Option.some.inj eq, hj0] at hq
      exact ho2 (Option.some.inj hq).symm
    show (h.jobs.set l.work (f j))[o.work]? = _
    rw [List.getElem?_set_ne (Ne.symm hne)]
    exact eq
  · exact ok.nums.sublist ((List.filter_sublist).map _)
  · rcases set_get e with ⟨rfl, rfl, _⟩ | ⟨hne, e⟩
    · rw [hh] at hq
      cases hq
    · obtain ⟨o, ho, e2, e3⟩ := ok.held i q m e hq
      refine ⟨o, List.mem_filter.mpr ⟨ho, ?_⟩, e2, e3⟩
      have : o.num ≠ l.num := fun z => hne (by rw [← e3, num_inj ok.nums ho hl z])
      simpa using this
  · show ((h.jobs.set l.work (f j)).filter fun j => decide (j.needs ≠ [])).length ≤ 120
    rw [filter_set_len _ ej (by simp [hn])]
    exact ok.needy
  · show (h.jobs.set l.work (f j)).length ≤ _
    rw [List.length_set]
    exact ok.sizes.1
  · exact Nat.le_trans (List.length_filter_le _ _) ok.sizes.2.1
  · rcases set_get e with ⟨rfl, rfl, _⟩ | ⟨_, e⟩
    · exact ⟨ha.1, ha.2.1, ha.2.2, fun z => absurd hh z⟩
    · exact ok.alive i q e
  · show (h.jobs.set l.work (f j)).length + _ + _ ≤ _
    rw [List.length_set]
    exact ok.pot
end LH
end

section
set_option Elab.async false
set_option linter.all false
set_option maxRecDepth 100000
set_option maxHeartbeats 4000000
namespace LH
open PySem PySem.Spec PyProof.Rows L2
theorem lease_jobS {h : HouseS} (ok : HouseOk h) {l : LeaseS} (hl : l ∈ h.cnt) : ∃ j, h.jobs[l.work]? = some j ∧ j.held = some l.num ∧ j.ended = none ∧ (j.tries : Int) < j.most ∧ (1 ≤ j.most ∧ j.most ≤ 9) := by
  obtain ⟨_, j, ej, hj⟩ := ok.cnt l hl
  obtain ⟨a, _, c, d⟩ := ok.alive _ _ ej
  have e := d (by rw [hj]; simp)
  exact ⟨j, ej, hj, e, c e, a⟩
theorem HouseOk.failOne {h : HouseS} (ok : HouseOk h) {l : LeaseS} (hl : l ∈ h.cnt) : HouseOk (h.failOne l) := by
  obtain ⟨j, ej, hj, he, ht, hm⟩ := lease_jobS ok hl
  have hs := stepFailed_steps j h.here h.pause
  unfold HouseS.failOne
  refine ok.closeJob hl ej (fun j => j.stepFailed h.here h.pause) hs.1 hs.2 ?_ ?_ ⟨?_, ?_, ?_⟩
  · unfold JobS.stepFailed
    split <;> (show j.tries + 1 ≤ 900; omega)
  · unfold JobS.stepFailed
    split <;> rfl
  · unfold JobS.stepFailed
    split <;> exact hm
  · unfold JobS.stepFailed
    split <;> (show ((j.tries + 1 : Nat) : Int) ≤ j.most; omega)
  · unfold JobS.stepFailed
    split
    · intro z
      cases z
    · intro _
      show ((j.tries + 1 : Nat) : Int) < j.most
      omega
theorem HouseOk.goOne {h : HouseS} (ok : HouseOk h) {l : LeaseS} (hl : l ∈ h.cnt) : HouseOk (h.goOne l) := by
  obtain ⟨j, ej, hj, he, ht, hm⟩ := lease_jobS ok hl
  unfold HouseS.goOne
  exact ok.closeJob hl ej (fun j => j.letGo h.here) rfl rfl (by show j.tries ≤ 900; omega) rfl ⟨hm, by show (j.tries : Int) ≤ j.most; omega, fun _ => ht⟩
theorem HouseOk.stepOne {h : HouseS} (ok : HouseOk h) {l : LeaseS} (hl : l ∈ h.cnt) (t : Int) : HouseOk ((h.closed l).jobUp l.work fun j => j.stepDone t) := by
  obtain ⟨j, ej, hj, he, ht, hm⟩ := lease_jobS ok hl
  exact ok.closeJob hl ej (fun j => j.stepDone t) rfl rfl (by show 0 ≤ 900; omega) rfl ⟨hm, by show ((0 : Nat) : Int) ≤ j.most; omega, fun _ => by show ((0 : Nat) : Int) < j.most; omega⟩
end LH
end

section
set_option Elab.async false
set_option linter.all false
set_option maxRecDepth 100000
set_option maxHeartbeats 4000000
/-! len(set(t)) of a tuple of texts -/
namespace LH
open PySem PySem.Spec PyProof.Rows L2
/-- how many unlike ones stand among the first i -/
def dcnt (xs : List Str) : Nat → Nat
  | 0 => 0
  | i + 1 => if decide (xs.getD i Str.empty ∈ xs.take i) = true then dcnt xs i else dcnt xs i + 1
theorem dcnt_le (xs : List Str) : ∀ i, dcnt xs i ≤ i
  | 0 => Nat.le_refl 0
  | i + 1 => by
    have z := dcnt_le xs i
    unfold dcnt
    split <;> omega
theorem dcnt_nodup {xs : List Str} (h : xs.Nodup) : ∀ i, i ≤ xs.length → dcnt xs i = i
  | 0, _ => rfl
  | i + 1, hi => by
    have z := dcnt_nodup h i (by omega)
    have hlt : i < xs.length := hi
    unfold dcnt
    rw [if_neg, z]
    rw [decide_eq_true_eq, List.getD_eq_getElem?_getD, List.getElem?_eq_getElem hlt]
    intro m
    obtain ⟨j, hj⟩ := List.mem_iff_getElem?.mp m
    rw [List.getElem?_take] at hj
    by_cases hji : j < i
    · rw [if_pos hji] at hj
      obtain ⟨hjl, ej⟩ := List.getElem?_eq_some_iff.mp hj
      exact absurd ej (List.pairwise_iff_getElem.mp h j i hjl hlt hji)
    · rw [if_neg hji] at hj
      cases hj
section
variable {prog : Program} {w : World} {A : Around} {R : Result → Shared → Prop} {I : Addr} {fp wr : List Addr} {G : Array GenState → Array GenState → Prop} {n : Nat} {Pv : Nat → Value → Prop} {St : Nat → Shared → Prop}
theorem updTexts (W : WalksS prog w A.in1 I fp wr G n Pv St) (S : Addr) (hSf : S ∉ fp) (xs : List Str) (hsz : n = xs.length) (hb : xs.length + 1 < scanBound)
    (hval : ∀ i v, Pv i v → ∃ t, v = .str (xs.getD i Str.empty) t) :
    ∀ (k i : Nat) (s : Shared), n - i = k → i ≤ n → St i s → s.heap.SetOf (PySem.strKind prog w) S (fun k' => decide (k' ∈ xs.take i)) (dcnt xs i) →
      (∀ s', Moved (S :: wr) G s s' → s'.heap.SetOf (PySem.strKind prog w) S (fun k' => decide (k' ∈ xs)) (dcnt xs n) → R (.ok (.ret .none)) s') →
      codeAny (model prog w) A (.builtin "set.update.loop" ⟨[.ref S, .ref I], []⟩) R s := by
  have nw : S ∉ wr := fun h => hSf (W.sub _ h)
  have up : ∀ b ∈ wr, b ∈ S :: wr := fun b hb => List.mem_cons_of_mem _ hb
  intro k
  induction k with
  | zero =>
    intro i s hk hi hst hS hR
    obtain rfl : i = n := by omega
    refine codeAny_builtin F.entry_set_update_loop ?_
    rw [Around.under_plainId F.plain_set_update_loop _]
    show wpAny _ A.in1 (pyNext (.ref I) >>= _) _ _ s
    refine wpAny_bind (W.done s _ _ hst fun s' hm => ?_)
    show wpAny _ A.in1 (ret Value.none) _ _ s'
    rw [List.take_of_length_le (by omega)] at hS
    exact wpAny_pure (hR s' (hm.mono up) (by
      obtain ⟨o, es, ep, t, ho, rest⟩ := hS
      exact ⟨o, es, ep, t, hm.heap S _ nw ho, rest⟩))
  | succ k ih =>
    intro i s hk hi hst hS hR
    have hlt : i < n := by omega
    refine codeAny_builtin F.entry_set_update_loop ?_
    rw [Around.under_plainId F.plain_set_update_loop _]
    show wpAny _ A.in1 (pyNext (.ref I) >>= _) _ _ s
    refine wpAny_bind (W.item i s _ _ hlt hst fun v s' hP hst' hm => ?_)
    obtain ⟨t, rfl⟩ := hval i v hP
    have hS' : s'.heap.SetOf (PySem.strKind prog w) S (fun k' => decide (k' ∈ xs.take i)) (dcnt xs i) := by
      obtain ⟨o, es, ep, tb, ho, rest⟩ := hS
      exact ⟨o, es, ep, tb, hm.heap S _ nw ho, rest⟩
    show wpAny _ A.in1 (holding [Value.str (xs.getD i Str.empty) t] (setAdd S (.str (xs.getD i Str.empty) t)) >>= _) _ _ s'
    refine wpAny_bind (wpAny_holding ?_)
    unfold setAdd
    refine wpAny_holding ?_
    refine wpAny_bind ((PySem.strKind prog w).pyHash (k := xs.getD i Str.empty) (strKind_is _ _ _ _) ?_)
    have hdl := dcnt_le xs i
    refine wpAny_setAddHashed_of (knd := PySem.strKind prog w) (s := { s' with toks := s'.toks + 1 }) (strKind_is _ _ _ _) rfl hS' (by omega) fun h' hsb hS2 => ?_
    have hSi : h'.SetOf (PySem.strKind prog w) S (fun k' => decide (k' ∈ xs.take (i + 1))) (dcnt xs (i + 1)) := by
      refine SetOf_congr hS2 (fun k' => ?_) (by rw [dcnt])
      have hx : i < xs.length := by omega
      have et : xs.take (i + 1) = xs.take i ++ [xs[i]] := by rw [List.take_add_one, List.getElem?_eq_getElem hx] <;> rfl
      rw [et, List.getD_eq_getElem?_getD, List.getElem?_eq_getElem hx, Bool.eq_iff_iff]
      simp only [Bool.or_eq_true, decide_eq_true_eq, List.mem_append, List.mem_singleton, Option.getD_some]
    refine wpAny_pure ⟨plainId_quiet F.plain_set_update_loop _, ih (i + 1) _ (by omega) hlt (W.frame _ s' _ _ hst' (Nat.le_succ _) fun b hb o e => ?_) hSi fun s'' hm'' hS'' => ?_⟩
    · rw [hsb.2 b (fun h : b = S => hSf (by rw [← h]; exact hb))]
      exact e
    · refine hR s'' (Moved.trans W.gtrans ((hm.mono up).then_heap (Nat.le_succ _) fun b o hb e => ?_) hm'') hS''
      rw [hsb.2 b (fun h : b = S => hb (by rw [h]; exact List.mem_cons_self))]
      exact e
end
section
variable {prog : Program} {w : World} {A : Around} {E : Value → Shared → Prop} {s : Shared}
set_option maxHeartbeats 8000000 in
theorem call_setTexts {l : Addr} {items : Array Value} {xs : List Str} {Q : Value → Shared → Prop}
    (hh : A.handled = none) (hl : s.heap.IsTuple l items) (hi : StrsAre items.toList xs) (hb : xs.length + 1 < scanBound)
    (h : ∀ (h' : Heap) (tk : Nat), h'.SetOf (PySem.strKind prog w) s.heap.objs.size (fun k' => decide (k' ∈ xs)) (dcnt xs xs.length) →
      (∀ b o, b < s.heap.objs.size → s.heap.get? b = some o → h'.get? b = some o) → Q (.ref s.heap.objs.size) { s with heap := h', toks := tk }) :
    wpAny (model prog w) A (call (.type "set") [.ref l]) Q E s := by
  have hsz : items.size = xs.length := by rw [← StrsAre.len_eq hi, Array.length_toList]
  obtain ⟨c, tl, hmro⟩ := F.called_set.mro
  have hmade := F.called_set.made
  have hsub := F.called_set.sub
  refine wpAny_call (codeAny_of_tree ?_)
  show wpAny _ _ (callAny (.type "set") _) _ _ _
  refine wpAny_pure ⟨Code.quiet_builtin _ (by decide +kernel), codeAny_builtin F.entry_type_call ?_⟩
  rw [Around.under_plain (weight_type_call_type "set" [.ref l] []) rfl]
  have h1 := F.called_set.notType
  have h2 := F.called_set.canCreate
  have hct := F.typeCall_set_1 (.ref l)
  repeat (any_goals (first | assumption | wp_step))

  refine codeAny_mono (code_set_new_1 (.ref l) (E := E) (Q₁ := fun obj s₁ => ∃ led : Bool, obj = .ref s.heap.objs.size ∧ s₁ = { s with heap := s.heap.push { cls := .type "set", dict := none, data := .set #[] 0 (.fresh 0 0 led) } }) fun led => ⟨led, rfl, rfl⟩) fun r s₁ hr => ?_
  cases r with
  | error e => exact hr
  | ok fl =>
    cases fl with
    | ret obj =>
      obtain ⟨led, rfl, rfl⟩ := hr
      have hS : (s.heap.push { cls := .type "set", dict := none, data := .set #[] 0 (.fresh 0 0 led) }).get? s.heap.objs.size = some { cls := .type "set", dict := none, data := .set #[] 0 (.fresh 0 0 led) } := Heap.get?_push_size _ rfl
      have hT : Shared.TypeIs { s with heap := s.heap.push { cls := .type "set", dict := none, data := .set #[] 0 (.fresh 0 0 led) } } (.ref s.heap.objs.size) "set" := ⟨_, hS, rfl⟩
      have hli := F.called_set.init.lookup
      have hbi := F.called_set.init.bind (.ref s.heap.objs.size)
      repeat (any_goals (first | assumption | wp_step))

      refine codeAny_mono (codeAny_call_builtin (R := wants (fun r s₂ => r = .none ∧ ∃ h' tk, s₂ = { s with heap := h', toks := tk } ∧
          h'.SetOf (PySem.strKind prog w) s.heap.objs.size (fun k' => decide (k' ∈ xs)) (dcnt xs xs.length) ∧
          (∀ b o, b < s.heap.objs.size → s.heap.get? b = some o → h'.get? b = some o)) E) F.called_set.init.plain F.entry_set_init (check_set_init_1 hT ?_)) fun r₂ s₂ hr₂ => ?_
      · obtain ⟨ol, hol, hcl, nl, hdl⟩ := hl
        obtain ⟨ocls, odict, odata, oslots⟩ := ol
        simp only at hcl hdl
        subst hcl; subst hdl
        have hol' : (s.heap.push { cls := .type "set", dict := none, data := .set #[] 0 (.fresh 0 0 led) }).get? l = some { cls := .type "tuple", dict := odict, data := .seq items nl, slots := oslots } := Heap.get?_push_of_some _ hol
        have hsls := F.sub_tuple_set
        have hslf := F.sub_tuple_frozenset
        have hne : (Value.type "tuple" == Value.type "dict") = false := by decide
        have hl1 : (s.heap.push { cls := .type "set", dict := none, data := .set #[] 0 (.fresh 0 0 led) }).IsTuple l items := ⟨_, hol', rfl, nl, rfl⟩
        unfold Builtin.«set.__init__» noKeywords Builtin.Frozenset.updateFrom
        generalize hPI : pyIter = PI
        wp_walk
        subst hPI

        refine wpAny_pyIter_tuple hl1 ?_
        refine wpAny_bind (wpAny_runValue ?_)
        have hlS : l < s.heap.objs.size := Heap.lt_size hol
        have hh3 : A.in1.in1.in1.handled = none := by simp [hh]
        have hneI : l ≠ (s.heap.push { cls := .type "set", dict := none, data := .set #[] 0 (.fresh 0 0 led) }).objs.size := by
          rw [Heap.size_push]; exact Nat.ne_of_lt (Nat.lt_succ_of_lt hlS)
        have hSf : s.heap.objs.size ∉ [(s.heap.push { cls := .type "set", dict := none, data := .set #[] 0 (.fresh 0 0 led) }).objs.size, l] := by
          rw [Heap.size_push]; simp only [List.mem_cons, List.mem_singleton, List.not_mem_nil, or_false, not_or]
          exact ⟨Nat.ne_of_lt (Nat.lt_succ_self _), Nat.ne_of_gt hlS⟩
        have hval : ∀ (i : Nat) (v : Value), items[i]? = some v → ∃ t, v = .str (xs.getD i Str.empty) t := fun i v hv => SS.strs_at hi i v (by rw [Array.getElem?_toList]; exact hv)
        refine updTexts ((Walks.tuple hh3 _ l hneI items).toS) s.heap.objs.size
          hSf xs hsz hb hval (items.size - 0) 0 _ (by omega) (Nat.zero_le _)
          ⟨⟨_, Heap.get?_push_size _ rfl, rfl, rfl⟩, (hl1.push _)⟩ ?hS0 ?hR
        case hS0 =>
          have hget : ((s.heap.push { cls := .type "set", dict := none, data := .set #[] 0 (.fresh 0 0 led) }).push { cls := .type "tuple_iterator", data := .fields #[.ref l, .int 0 0] }).get? s.heap.objs.size
              = some { cls := .type "set", dict := none, data := .set #[] 0 (.fresh 0 0 led) } := Heap.get?_push_of_some _ hS
          exact PyProof.Rows.SetOf_congr ((PyProof.Rows.setObjOf_fresh (knd := PySem.strKind prog w) led).setOf hget (by unfold scanBound; omega)) (fun _ => by simp) rfl
        case hR =>
          intro s' hm hS'
          obtain ⟨h', g', d', tk', os'⟩ := s'
          have eg : g' = s.gens := hm.gens
          have ed : d' = s.drawn := hm.drawn
          have eo : os' = s.os := hm.os
          subst eg; subst ed; subst eo
          show wpAny _ _ _ _ _ _
          refine wpAny_pure ?_
          show wpAny _ _ (ret Value.none) _ _ _
          rw [hsz] at hS'
          refine wpAny_pure ⟨rfl, h', tk', rfl, hS', fun b o hb e => ?_⟩
          have hb1 : b ≠ s.heap.objs.size := Nat.ne_of_lt hb
          have hb2 : b ≠ (s.heap.push { cls := .type "set", dict := none, data := .set #[] 0 (.fresh 0 0 led) }).objs.size := by
            rw [Heap.size_push]; exact Nat.ne_of_lt (Nat.lt_succ_of_lt hb)
          exact hm.heap b o (by simp only [List.mem_cons, List.mem_singleton, List.not_mem_nil, or_false, not_or]; exact ⟨hb1, hb2⟩) (Heap.get?_push_of_some _ (Heap.get?_push_of_some _ e))

      · cases r₂ with
        | error e => exact hr₂
        | ok fl₂ =>
          cases fl₂ with
          | ret r =>
            obtain ⟨rfl, h', tk, rfl, hS', hk'⟩ := hr₂
            repeat (any_goals (first | assumption | wp_step))
            exact h _ _ hS' hk'
          | _ => exact hr₂.elim
    | _ => exact hr.elim
end
section
variable {X : Cx}
def tLenSetT (K : PySem.W.Frag) (ta : TE) : TE := fun σ H Q => ta σ H fun x H1 => ∃ (l : Addr) (xs : List Str), x = .ref l ∧ SqT K H1 l (xs.map V.str) ∧ xs.length ≤ 4000 ∧ Q (.int (dcnt xs xs.length : Nat)) H1
theorem pe_lenSetT {a : Expr} {ta : TE} {p p2 q pos : Pos} (hg : Gl X "len") (hm : X.mg "len" = none) (hg2 : Gl X "set") (hm2 : X.mg "set" = none) (ha : PE X a ta) (hc : X.calm = true := by rfl)
    (na : starEach [a] X.env = (false, eval a X.env) :: starEach [] X.env := by rfl) : PE X (.Call (.Name "len" p) [.Call (.Name "set" p2) [a] [] q] [] pos) (tLenSetT X.K ta) := by
  refine ⟨fun pins s σ H Q I h => ?_⟩
  refine Call_ (ld_blt I hg hm boot_len ?_)
  refine PyProof.Rows.callWith_builtin1 (PyProof.Rows.args_cons ?_ rfl) rfl rfl
  refine Call_ (ld_blt I hg2 hm2 boot_set ?_)
  refine PyProof.Rows.callWith_type1 (PyProof.Rows.args_cons (thn (ha.run pins s σ H _ I h) fun v s1 ⟨x, H1, I1, r1, q1⟩ => PyProof.Rows.args_nil ?_) na) na rfl
  obtain ⟨l, xs, rfl, hq, hl, q1⟩ := q1
  cases r1
  obtain ⟨its, r, pl, hz⟩ := I1.tuple hq
  refine call_setTexts (I1.ok.hd hc) pl (xs := xs) (by simpa using strsAre_of r) (by unfold scanBound; omega) fun h' tk hS hk => ?_
  refine PyProof.Rows.args_nil ?_
  obtain ⟨o, es, ep, t, ho, hex, hd, _, _, _, hf, hn⟩ := hS
  have I2 : Inv X pins σ H1 { s1 with heap := h', toks := tk } := I1.kept fun b o e => hk b o (Heap.lt_size e) e
  have hdl := dcnt_le xs xs.length
  exact call_len_set ho hex hd hf (by rw [hn] <;> omega) ⟨.int (dcnt xs xs.length : Nat), H1, I2.tok _, ⟨_, by rw [hn]⟩, q1⟩
end
end LH
end

section
set_option Elab.async false
set_option linter.all false
set_option maxRecDepth 100000
set_option maxHeartbeats 4000000
/-! xs[:c] = ys -/
namespace LH
open PySem PySem.Spec PyProof.Rows L2
theorem bounds_head {c n : Nat} (hc : c ≤ n) : sliceBounds none (some (c : Int)) none n = (((0 : Nat) : Int), (c : Int), (1 : Int)) := by
  simp only [sliceBounds, Option.getD_none]
  have h2 : ¬ ((c : Int) < 0) := by omega
  simp only [h2, if_false, show (1 : Int) > 0 by decide, if_true]
  congr 1
  congr 1
  omega
section
variable {prog : Program} {w : World} {A : Around} {E : Value → Shared → Prop} {s : Shared}
theorem setItem_head {l b sl : Addr} {items new : Array Value} {n n2 : Nat} {vl vu : Value} {c : Nat} {Q : Unit → Shared → Prop}
    (e : s.heap.get? l = some { cls := .type "list", data := .seq items n }) (e2 : s.heap.get? b = some { cls := .type "list", data := .seq new n2 }) (hne : l ≠ b)
    (hs : s.heap.IsSliceOf sl vl vu .none) (pl : IsPart vl none) (pu : IsPart vu (some (c : Int))) (hc : c ≤ items.size)
    (hsz : items.size + new.size ≤ sizeLine) (h : Q () { s with heap := s.heap.update l (Obj.mapSeq fun xs => xs.extract 0 0 ++ new ++ xs.extract c xs.size) }) :
    wpAny (model prog w) A (setItem (.ref l) (.ref sl) (.ref b)) Q E s := by
  have hl : s.heap.IsList l items := PySem.IsL.isList e
  have hb : s.heap.IsList b new := PySem.IsL.isList e2
  obtain ⟨os, hos, hcs, hds⟩ := id hs
  have hTs : s.TypeIs (.ref sl) "slice" := ⟨os, hos, hcs⟩
  have hstep : ¬ ((rawPart none == rawInt 0) = true) := Bool.false_ne_true
  have hsame : Builtin.List.listSameRef (.ref l) (.ref b) = false := by
    unfold Builtin.List.listSameRef
    exact beq_eq_false_iff_ne.mpr hne
  have hmax : (max ((0 : Nat) : Int) (c : Int)).toNat = c := by omega
  have hz' : ((fun xs : Array Value => xs.extract 0 0 ++ new ++ xs.extract c xs.size) items).size ≤ sizeLine + 1 := by
    simp only [Array.size_append, Array.size_extract]
    omega
  unfold setItem
  try with_reducible refine wpAny_holding ?_
  first | refine wpAny_bind (wpAny_pure ?_) | skip
  refine wpAny_bind (wpAny_sequenceKey hl.typeIs (by decide) ?_)
  refine wpAny_bind (wpAny_callSpecial?_slot (name := Str.ofString "__setitem__") hl.typeIs slot_list_setitem
    (wpAny_call_entry slot_list_setitem hl.typeIs entry_list_setitem ?_ (args_list_setitem _ _ _)))
  show wpAny _ _ (Builtin.List.listSubscript? (.ref sl) >>= _) _ _ s
  refine wpAny_bind ?_
  unfold Builtin.List.listSubscript?
  refine wpAny_bind (wpAny_specialOf hTs slice_no_index ?_)
  simp only [Option.isNone_none, if_true]
  refine wpAny_pure ?_
  show wpAny _ _ (typeOf (.ref sl) >>= _) _ _ s
  refine wpAny_bind (wpAny_typeOf hTs ?_)
  first
    | rw [if_neg (by decide)]
    | refine PySem.W.KFB.if_not (by decide) ?_
  rw [listSliceParts_eq]
  refine wpAny_bind (wpAny_bind (wpAny_field hos hds (x := .none) rfl (wpAny_bind (wpAny_listPart .none ?_))))
  rw [if_neg hstep]
  refine wpAny_bind (wpAny_field hos hds (x := vl) rfl (wpAny_bind (wpAny_listPart pl ?_)))
  refine wpAny_bind (wpAny_field hos hds (x := vu) rfl (wpAny_bind (wpAny_listPart pu (wpAny_pure ?_))))
  first
    | simp only [hsame, Bool.false_eq_true, if_false]
    | refine PySem.W.KFB.if_not hsame ?_
    | (dsimp only
       rw [if_neg (by rw [hsame]; exact Bool.false_ne_true)])
  refine wpAny_bind (m := Builtin.List.listAllItems (.ref b) "must assign iterable to extended slice") ?_
  unfold Builtin.List.listAllItems
  refine wpAny_bind (wpAny_typeOf hb.typeIs ?_)
  first
    | refine PySem.W.KFB.if_so (by decide) ?_
    | rw [if_pos (by decide)]
    | simp only [beq_self_eq_true, Bool.true_or, if_true]
  unfold Builtin.List.listItems
  refine wpAny_bind (wpAny_seqItems e2 rfl (wpAny_pure ?_))
  refine wpAny_bind (wpAny_bind (wpAny_seqItems e rfl (wpAny_pure ?_)))
  refine wpAny_bind (wpAny_of_eq ((sliceIndices_raw none (some (c : Int)) none items.size (by simp)).trans (congrArg (pure : Int × Int × Int → Sem (Int × Int × Int)) (bounds_head hc))) ?_)
  show wpAny _ _ (if ((1 : Int) == 1) = true then _ else _) _ _ s
  rw [if_pos (by decide)]
  refine wpAny_bind (wpAny_rule ?_)
  first
    | simp only [notLongL hsz, Bool.false_eq_true, if_false]
    | refine PySem.W.KFB.if_not (notLongL hsz) ?_
  first | refine wpAny_bind (wpAny_pure ?_) | skip
  show wpAny _ _ (updateSeq l (fun xs => xs.extract 0 (((0 : Nat) : Int)).toNat ++ new ++ xs.extract (max ((0 : Nat) : Int) (c : Int)).toNat xs.size) >>= _) _ _ s
  rw [hmax, Int.toNat_natCast]
  refine wpAny_bind (wpAny_updateSeq (hz := Nat.le_trans (Nat.le_add_right _ _) hsz) (_hz' := hz') e rfl ?_)
  refine wpAny_bind (wpAny_letGo ?_)
  first
    | exact wpAny_bind (wpAny_pure (wpAny_pure ⟨.none, rfl, wpAny_pure h⟩))
    | exact wpAny_pure ⟨.none, rfl, wpAny_pure h⟩
end
section
variable {X : Cx} {pos p2 : Pos}
/-- o[:c] = a list, o another list of c items or more -/
def gHead (K : PySem.W.Frag) (to : TE) (th : TO) : TG := fun v σ H Q => to σ H fun o H1 => th σ H1 fun u H2 => ∃ (a b : Addr) (xs ys : List V) (c : Nat), o = .ref a ∧ v = .ref b ∧ u = some (c : Int) ∧ a ≠ b ∧ H2 a = some (.lst xs) ∧ H2 b = some (.lst ys) ∧ c ≤ xs.length ∧
  xs.length + ys.length ≤ sizeLine ∧ Q σ (upd H2 a (.lst (ys ++ xs.drop c)))
theorem pg_head {o : Expr} {hi : Option Expr} {to : TE} {th : TO} (ho : PE X o to) (hh : PO X hi th)
    (ha : ∀ v, assign (.Subscript o (.Slice none hi none p2) pos) X.env v = (do
      let ov ← holding [v] (eval o X.env)
      let iv ← holding [v, ov] (eval (.Slice none hi none p2) X.env)
      standAt pos
      holding [v, ov, iv] (setItem ov iv v)
      release [iv, v, ov] []) := by intro _; rfl) : PG X (.Subscript o (.Slice none hi none p2) pos) (gHead X.K to th) := by
  refine ⟨fun pins s σ H v u Q I r h => ?_⟩
  rw [ha]
  refine wpAny_bind (wpAny_holding (thn (ho.run pins s σ H _ I h) fun ov s1 ⟨x, H1, I1, r1, q1⟩ => ?_))
  refine wpAny_bind (wpAny_holding (wpAny_Slice (thn (po_none.run pins s1 σ H1 (fun o H2 => o = none ∧ H2 = H1) I1 ⟨rfl, rfl⟩) fun vl s2 ⟨l, H2, I2, pl, el, e2⟩ => ?_)))
  subst el e2
  refine thn (hh.run pins s2 σ _ _ I2 q1) fun vu s3 ⟨m, H3, I3, pu, a, b, xs, ys, c, ex, ev, em, hne, hxa, hyb, hc, hz, q⟩ => ?_
  subst ex ev em
  rw [evalPart_none]
  refine wpAny_pure ?_
  obtain rfl : ov = Value.ref a := r1
  obtain rfl : u = Value.ref b := r
  have I4 : Inv X pins σ H3 { s3 with heap := s3.heap.push { cls := .type "slice", data := .fields #[vl, vu, .none] } } := I3.kept (t' := s3.toks) fun b ob q => Heap.get?_push_of_some _ q
  refine wpAny_bind (wpAny_standAt (wpAny_bind (wpAny_holding ?_)))
  obtain ⟨z, its, n, rv, hl, e⟩ := I4.lstM hxa
  obtain ⟨z2, its2, n2, rv2, hl2, e2⟩ := I4.lstM hyb
  refine setItem_head (c := c) e e2 hne (Heap.IsSliceOf.new ..) pl pu (by rw [List.size_toArray]; omega) (by rw [List.size_toArray, List.size_toArray]; omega) ?_
  refine wpAny_release ⟨σ, _, I4.lset (its' := its2 ++ its.drop c) (t' := s3.toks) hxa e ?_ (Vals.append rv2 (rv.drop _)) ?_, q⟩
  · have z3 := splice_eq its its2 0 c
    simpa using z3
  · rw [List.length_append, List.length_drop]
    omega
end
end LH
end

section
set_option Elab.async false
set_option linter.all false
set_option maxRecDepth 100000
set_option maxHeartbeats 4000000
/-! two clauses: over a dict's values, over a list of each -/
namespace LH
open PySem PySem.Spec PyProof.Rows L2
theorem flat_take {α β : Type} (F : α → List β) (l : List α) {i : Nat} {a : α} (e : l[i]? = some a) : (l.take (i + 1)).flatMap F = (l.take i).flatMap F ++ F a := by
  rw [List.take_succ, e, List.flatMap_append]
  simp
theorem flat_len {α β : Type} (ys : α → List β) (F : α → List V) (hF : ∀ b, (F b).length ≤ (ys b).length) (l : List α) : (l.flatMap F).length ≤ (l.flatMap ys).length := by
  induction l with
  | nil => simp
  | cons a l ih =>
    rw [List.flatMap_cons, List.flatMap_cons, List.length_append, List.length_append]
    have := hF a
    omega
theorem lc2V {α β : Type} {K : PySem.W.Frag} {g g1 : TG} {tt tt1 : L2.TT} {wi1 : TI} {te : TE} {vs vs1 : List Nat} {σ : L2.St} {H : Hp} {Q : VK} {d : Addr} {kvs : List (Key × V)} {td : TE} (l : List α) (val : α → V) (pl : α → Addr) (ys : α → List β) (val1 : β → V) (h : α → β → Option V) (s2 : α → L2.St)
    (ex : kvs.map (·.2) = l.map val) (hd0 : H d = some (.dK kvs)) (hz : (l.flatMap ys).length < sizeLine)
    (htd : ∀ od R, R (.ref d) (upd H d (.frz od (.dK kvs))) → td σ (upd H d (.frz od (.dK kvs))) R)
    (hy : ∀ od Hc b, b ∈ l → Same (upd H d (.frz od (.dK kvs))) Hc → SqL K Hc (pl b) ((ys b).map val1))
    (hs : ∀ (od : Obj) (i : Nat) (b : α) (Hc : Hp) (R1 : L2.St → It → Hp → Prop) (R0 : Hp → Prop), l[i]? = some b → Same (upd H d (.frz od (.dK kvs))) Hc → R1 (s2 b) (Itl K (pl b)) Hc →
      g (val b) (wipe σ vs) Hc fun σ2 H2 => wipe σ2 vs = wipe σ vs ∧ tt σ2 H2 fun c H3 => if c = true then wi1 σ2 H3 (R1 σ2) else R0 H3)
    (hs1 : ∀ (od : Obj) (i : Nat) (b : α) (j : Nat) (x : β) (Hc : Hp) (R : VK) (R0 : Hp → Prop), l[i]? = some b → (ys b)[j]? = some x → Same (upd H d (.frz od (.dK kvs))) Hc → (∀ y H4, h b x = some y → Same Hc H4 → R y H4) → (∀ H3, h b x = none → Same Hc H3 → R0 H3) →
      g1 (val1 x) (wipe (s2 b) vs1) Hc fun σ3 H5 => wipe σ3 vs1 = wipe (s2 b) vs1 ∧ tt1 σ3 H5 fun c H6 => if c = true then te σ3 H6 R else R0 H6)
    (hd : ∀ D H', H D = none → Same H H' → H' D = some (.lst (l.flatMap fun b => (ys b).filterMap (h b))) → Q (.ref D) H') : tLockE (tLc2 (iVals td) g tt wi1 g1 tt1 te vs vs1) σ H Q := by
  refine ⟨d, .dK kvs, hd0, trivial, fun od => htd od _ ⟨d, od, kvs, rfl, upd_same, fun D hn => ?_⟩⟩
  have hl : kvs.length = l.length := by simpa using congrArg List.length ex
  have hnd : D ≠ d := fun z => by rw [z, upd_same] at hn; cases hn
  have hn' : H D = none := by rw [upd_ne hnd] at hn; exact hn
  have w := walk_values (d := d) (o := od) (kvs := kvs)
  have hF : ∀ b, ((ys b).filterMap (h b)).length ≤ (ys b).length := fun b => List.length_filterMap_le _ _
  refine ⟨fun i m Hc => m = l.length - i ∧ i ≤ l.length ∧ Same (upd H d (.frz od (.dK kvs))) Hc ∧ Hc D = some (.lst ((l.take i).flatMap fun b => (ys b).filterMap (h b))), ⟨l.length, by simp, Nat.zero_le _, same_new hn, by rw [upd_same]; simp⟩, ?_⟩
  rintro i m Hc ⟨rfl, hi, q1, q2⟩
  by_cases hlt : i < l.length
  · refine .inr ⟨w.goes i Hc (by omega) (q1 _ _ upd_same), fun H' => Same (upd H d (.frz od (.dK kvs))) H' ∧ H' D = some (.lst ((l.take (i + 1)).flatMap fun b => (ys b).filterMap (h b))), fun H' p => ⟨l.length - (i + 1), by omega, rfl, hlt, p⟩, fun x H' y => ?_⟩
    obtain ⟨rfl, k, ey⟩ := w.yields i Hc x H' (by omega) (q1 _ _ upd_same) y
    obtain ⟨b, eb⟩ : ∃ b, l[i]? = some b := ⟨_, List.getElem?_eq_getElem hlt⟩
    have e2 : (kvs.map (·.2))[i]? = some x := by rw [List.getElem?_map, ey]; rfl
    rw [ex, List.getElem?_map, eb] at e2
    obtain rfl : val b = x := Option.some.inj e2
    have eF := flat_take (fun b => (ys b).filterMap (h b)) l eb
    have eY := flat_take ys l eb
    have lY : ((l.take i).flatMap ys).length + (ys b).length ≤ (l.flatMap ys).length := by
      have z : (l.flatMap ys).length = ((l.take (i + 1)).flatMap ys).length + ((l.drop (i + 1)).flatMap ys).length := by
        rw [← List.length_append, ← List.flatMap_append, List.take_append_drop]
      rw [eY, List.length_append] at z
      omega
    have lF := flat_len ys (fun b => (ys b).filterMap (h b)) hF (l.take i)
    refine hs od i b H' (fun σ2 J1 H4 => _) _ eb q1 ?_
    refine ⟨fun j k Hj => k = (ys b).length - j ∧ j ≤ (ys b).length ∧ Same (upd H d (.frz od (.dK kvs))) Hj ∧ Hj D = some (.lst ((l.take i).flatMap (fun b => (ys b).filterMap (h b)) ++ ((ys b).take j).filterMap (h b))),
      ⟨(ys b).length, by simp, Nat.zero_le _, q1, by rw [q2]; simp⟩, ?_⟩
    rintro j k Hj ⟨rfl, hj, p1, p2⟩
    have w1 := walk_list (K := K) (a := pl b) (xs := (ys b).map val1)
    have hyj := hy od Hj b (List.mem_of_getElem? eb) p1
    by_cases hjt : j < (ys b).length
    · refine .inr ⟨w1.goes j Hj (by simpa using hjt) hyj, fun H' => Same (upd H d (.frz od (.dK kvs))) H' ∧ H' D = some (.lst ((l.take i).flatMap (fun b => (ys b).filterMap (h b)) ++ ((ys b).take (j + 1)).filterMap (h b))),
        fun H' p => ⟨(ys b).length - (j + 1), by omega, rfl, hjt, p⟩, fun x H2 y2 => ?_⟩
      obtain ⟨rfl, ey2⟩ := w1.yields j Hj x H2 (by simpa using hjt) hyj y2
      obtain ⟨z, ez⟩ : ∃ z, (ys b)[j]? = some z := ⟨_, List.getElem?_eq_getElem hjt⟩
      rw [List.getElem?_map, ez] at ey2
      obtain rfl : val1 z = x := Option.some.inj ey2
      have e1 := take_fm (h b) (ys b) ez
      refine hs1 od i b j z H2 _ _ eb ez p1 (fun y H4 hh s4 => ?_) fun H3 hh s3 => ?_
      · refine ⟨_, s4 _ _ p2, ?_, Same.put (Same.trans' p1 s4) hn, ?_⟩
        · rw [List.length_append]
          have h1 := List.length_filterMap_le (h b) ((ys b).take j)
          have h2 := List.length_take_le j (ys b)
          omega
        · rw [upd_same, e1, hh, List.append_assoc]
          rfl
      · refine ⟨Same.trans' p1 s3, ?_⟩
        rw [e1, hh, Option.toList, List.append_nil]
        exact s3 _ _ p2
    · obtain rfl : j = (ys b).length := by omega
      refine .inl ⟨?_, p1, ?_⟩
      · have z := w1.stops Hj hyj
        rw [List.length_map] at z
        exact z
      · rw [p2, List.take_length, eF]
  · obtain rfl : i = l.length := by omega
    refine .inl ⟨by rw [← hl]; exact w.stops Hc (q1 _ _ upd_same), q1 _ _ upd_same, hd D _ hn' ?_ ?_⟩
    · intro b o e
      by_cases z : b = d
      · subst z
        rw [hd0] at e
        rw [upd_same, e]
      · rw [upd_ne z]
        exact q1 _ _ (by rw [upd_ne z]; exact e)
    · rw [upd_ne hnd, q2, List.take_length]
end LH
end

section
set_option Elab.async false
set_option linter.all false
set_option maxRecDepth 100000
set_option maxHeartbeats 4000000
/-! o.f as a target among others -/
namespace LH
open PySem PySem.Spec PyProof.Rows L2
section
variable {X : Cx} {pos : Pos}
def gFldT (K : PySem.W.Frag) (to : TE) (f : Str) : TG := fun v σ H Q => to σ H fun x H1 => ∃ a C dx fs, x = .ref a ∧ H1 a = some (.ins C dx fs) ∧ Cls K C ∧ NoAttr K C f ∧ fs.length < 1000 ∧ Q σ (upd H1 a (.ins C dx (putF f v fs)))
theorem pg_fldT {o : Expr} {f : Str} {to : TE} (ho : PE X o to)
    (ha : ∀ v, assign (.Attribute o f pos) X.env v = (do
      let ov ← holding [v] (eval o X.env)
      standAt pos.atName
      holding [v, ov] (setAttr ov f v)
      release [v, ov] []) := by intro _; rfl) : PG X (.Attribute o f pos) (gFldT X.K to f) := by
  refine ⟨fun pins s σ H v u Q I r h => ?_⟩
  rw [ha]
  refine wpAny_bind (wpAny_holding (thn (ho.run pins s σ H _ I h) fun ov s1 ⟨x, H1, I1, rx, a, C, dx, fs, ex, ea, c, n, l, q⟩ => ?_))
  subst ex
  obtain rfl : ov = Value.ref a := rx
  refine wpAny_bind (wpAny_standAt (wpAny_bind (wpAny_holding ?_)))
  exact setattr_ok I1 ea c n l r fun s3 I3 => wpAny_release ⟨σ, _, I3, q⟩
end
end LH
end

section
set_option Elab.async false
set_option linter.all false
set_option maxRecDepth 100000
set_option maxHeartbeats 4000000
set_option pp.maxSteps 1500
namespace LH
open PySem PySem.Spec PyProof.Rows L2 StX LamX
variable {P : Program} {w : World} {K : PySem.W.Frag} {mg : Str → Option Value} {base : Heap}
theorem drop_staff (l : List StaffG) (x : Str) : dropK (staffD l) (Sum.inr x) = staffD (l.filter fun o => decide (o.name ≠ x)) := by
  unfold dropK staffD
  rw [List.filter_map]
  congr 1
  apply List.filter_congr
  intro o _
  simp
theorem stp_putS {H : Hp} {G : HG} (hg : HouseAt K H G) (L : List StaffG) (hL : ∀ s ∈ L, SqT K H s.t (vstrs s.kinds)) : Stp K H G (upd H G.sd (.dK (staffD L))) { G with staff := L } :=
  stp_of hg (b0 (i := 5)) (hg.putS L hL) (fun b hb => hb) rfl same_jobs
theorem er_dropS {G : HG} {x : Str} : HG.er { G with staff := G.staff.filter fun o => decide (o.name ≠ x) } = { G.er with staff := G.er.staff.filter fun s => decide (s.1 ≠ x) } := by
  unfold HG.er
  simp only
  rw [List.filter_map]
  rfl
/-- a for over a list that is reckoned: first the list -/
theorem frL {td : TE} {g : TG} {tb : TS} {D : Ends} {σ : L2.St} {H : Hp} (h : td σ H fun x H1 => ∃ a, x = .ref a ∧ (∃ xs, SqL K H1 a xs) ∧ tFor (fun _ H2 R => R (Itl K a) H2) g tb D σ H1) : tFor (iList K td) g tb D σ H := h
@[irreducible] def sp_House_leave (K : PySem.W.Frag) : Sp := fun vs H Q E => ∃ (G : HG) (x : Str) (z : StaffG), vs = [.ref G.p, .str x] ∧ HouseAt K H G ∧ HouseOk G.er ∧ isName x = true ∧ (G.staff.find? fun l => decide (l.name = x)) = some z ∧ G.log.length < 1000000 ∧ ∀ H' G', Stp K H G H' G' → G'.er = G.er.leave x → Q .non H'
end LH
end

section
set_option Elab.async false
set_option linter.all false
set_option maxRecDepth 100000
set_option maxHeartbeats 4000000
namespace LH
open PySem PySem.Spec PyProof.Rows L2
theorem app_get {α : Type} {l : List α} {i : Nat} {x y : α} (h : (l ++ [x])[i]? = some y) : l[i]? = some y ∨ (i = l.length ∧ y = x) := by
  by_cases hi : i < l.length
  · rw [List.getElem?_append_left hi] at h
    exact .inl h
  · rw [List.getElem?_append_right (by omega)] at h
    by_cases e : i - l.length = 0
    · rw [e] at h
      exact .inr ⟨by omega, (Option.some.inj h).symm⟩
    · rw [List.getElem?_eq_none (by simp; omega)] at h
      cases h
theorem HouseOk.newJob {h : HouseS} (ok : HouseOk h) {rank til most : Int} {steps : List Str} {needs : List Nat} (hs : steps ≠ []) (hsr : ∀ s ∈ steps, ∃ r, h.row s = some r) (hn : ∀ n ∈ needs, n < h.jobs.length) (hnl : needs.length ≤ 6) (hsl : steps.length ≤ 5)
    (hm : 1 ≤ most ∧ most ≤ 9) (hl : h.jobs.length + h.clks.length + (h.clks.map fun c => c.left.toNat).sum < 900000) (hd : needs = [] ∨ (h.jobs.filter fun j => decide (j.needs ≠ [])).length < 120) : HouseOk (h.newJob rank til steps needs most) := by
  refine ⟨ok.rows, fun i j e => ?_, fun l hl => ?_, ok.nums, fun i j m e hh => ?_, ok.staff, ok.pause, ?_, ⟨?_, ok.sizes.2⟩, fun i j e => ?_, ok.clks, ?_⟩
  · rcases app_get e with e | ⟨rfl, rfl⟩
    · exact ok.jobs i j e
    · exact ⟨hs, hsr, hn, hnl, hsl, by show 0 ≤ 900; omega⟩
  · obtain ⟨h1, j, ej, hj⟩ := ok.cnt l hl
    refine ⟨h1, j, ?_, hj⟩
    show (h.jobs ++ [_])[l.work]? = _
    rw [List.getElem?_append_left (List.getElem?_eq_some_iff.mp ej).1]
    exact ej
  · rcases app_get e with e | ⟨rfl, rfl⟩
    · exact ok.held i j m e hh
    · cases hh
  · show ((h.jobs ++ [(⟨rank, til, steps, needs, most, 0, 0, 0, none, none, h.here⟩ : JobS)]).filter fun j => decide (j.needs ≠ [])).length ≤ 120
    rw [List.filter_append, List.length_append]
    have h0 := ok.needy
    rcases hd with e | e
    · subst e
      simpa using h0
    · have := List.length_filter_le (fun j : JobS => decide (j.needs ≠ [])) [⟨rank, til, steps, needs, most, 0, 0, 0, none, none, h.here⟩]
      simp only [List.length_singleton] at this
      omega
  · show (h.jobs ++ [_]).length ≤ _
    rw [List.length_append, List.length_singleton]
    omega
  · rcases app_get e with e | ⟨rfl, rfl⟩
    · exact ok.alive i j e
    · exact ⟨hm, by show ((0 : Nat) : Int) ≤ most; omega, fun _ => by show ((0 : Nat) : Int) < most; omega, fun z => absurd rfl z⟩
  · show (h.jobs ++ [_]).length + h.clks.length + (h.clks.map fun c => c.left.toNat).sum ≤ _
    rw [List.length_append, List.length_singleton]
    omega
end LH
end

section
set_option Elab.async false
set_option linter.all false
set_option maxRecDepth 100000
set_option maxHeartbeats 4000000
set_option pp.maxSteps 1500
namespace LH
open PySem PySem.Spec PyProof.Rows L2 StX LamX
variable {P : Program} {w : World} {K : PySem.W.Frag} {mg : Str → Option Value} {base : Heap}
@[irreducible] def sp_Limits_put (K : PySem.W.Frag) : Sp := fun vs H Q E => ∃ (G : HG) (k : Str) (r : RowS) (most rate : Int), vs = [.ref G.lim, .str k, .int most, .int rate] ∧ HouseAt K H G ∧ (G.er.rows.map (·.kind)).Nodup ∧ G.er.row k = some r ∧
  ∀ H' G', Stp K H G H' G' → G'.er = (G.er.rowUp k fun r => { r with most := most, rate := rate }) → Q .non H'
theorem put_ok {G : HG} {k : Str} {r : RowS} {most rate : Int} {H : Hp} {Q : VK} {E : XK} (hg : HouseAt K H G) (nd : (G.er.rows.map (·.kind)).Nodup) (hr' : G.er.row k = some r)
    (q : ∀ H' G', Stp K H G H' G' → G'.er = (G.er.rowUp k fun r => { r with most := most, rate := rate }) → Q .non H') : sp_Limits_put K [.ref G.lim, .str k, .int most, .int rate] H Q E := by
  unfold sp_Limits_put
  exact ⟨G, k, r, most, rate, rfl, hg, nd, hr', q⟩
@[irreducible] def sp_House_limit (K : PySem.W.Frag) : Sp := fun vs H Q E => ∃ (G : HG) (k : Str) (r : RowS) (most rate : Int), vs = [.ref G.p, .str k, .int most, .int rate] ∧ HouseAt K H G ∧ (G.er.rows.map (·.kind)).Nodup ∧ isName k = true ∧ G.er.row k = some r ∧ (1 ≤ most ∧ most ≤ 9) ∧ (1 ≤ rate ∧ rate ≤ 99) ∧ G.log.length < 1000000 ∧
  ∀ H' G', Stp K H G H' G' → G'.er = G.er.limit k most rate → Q .non H'
end LH
end

section
set_option Elab.async false
set_option linter.all false
set_option maxRecDepth 100000
set_option maxHeartbeats 4000000
set_option pp.maxSteps 1500
namespace LH
open PySem PySem.Spec PyProof.Rows L2 StX LamX
variable {P : Program} {w : World} {K : PySem.W.Frag} {mg : Str → Option Value} {base : Heap}
theorem needname_ok {x : Str} (h : isName x = true) {H : Hp} {Q : VK} {E : XK} (q : ∀ H', Same H H' → Q .non H') : sp_need_name K [.str x] H Q E := by
  unfold sp_need_name
  exact ⟨x, rfl, h, q⟩
theorem put_staff {l : List StaffG} {x : Str} {v : V} (h : (l.find? fun o => decide (o.name = x)) = none) : putK (staffD l) (Sum.inr x) v = staffD l ++ [(Sum.inr x, v)] := by
  unfold putK
  rw [if_neg]
  unfold staffD
  rw [List.any_map, List.any_eq_true]
  rintro ⟨o, ho, e⟩
  have := List.find?_eq_none.mp h o ho
  simp at this e
  exact this e
theorem name_strOk {x : Str} (h : isName x = true) : PyData.strOk x = true := by
  unfold isName at h
  obtain ⟨_, h2⟩ := Bool.and_eq_true_iff.mp h
  unfold PyData.strOk
  rw [← Array.all_toList, List.all_eq_true]
  intro c hc
  have h3 := List.all_eq_true.mp h2 c hc
  have h4 : ∀ c ∈ (Str.ofString "abcdefghijklmnopqrstuvwxyz").cps.toList, decide (c < 0x110000) = true := by decide +kernel
  exact h4 c (by simpa using h3)
theorem shaped_strs {l : List Str} (h : ∀ x ∈ l, PyData.strOk x = true) : SeqAt.shaped (.tuple (l.map .str)) = true := by
  have h1 : PyData.canLayAll0 (l.map .str) = true := by
    induction l with
    | nil => rfl
    | cons a l ih =>
      rw [List.map_cons]
      unfold PyData.canLayAll0
      rw [ih fun x hx => h x (List.mem_cons_of_mem _ hx), Bool.and_true]
      unfold PyData.canLay0
      exact h a List.mem_cons_self
  have h2 : ∀ l : List Str, PyData.depthAll (l.map .str) ≤ 1 := fun l => by
    induction l with
    | nil => simp [PyData.depthAll]
    | cons a l ih =>
      simp only [List.map_cons, PyData.depthAll, PyData.depth]
      omega
  unfold SeqAt.shaped
  have h3 : PyData.canLay0 (.tuple (l.map .str)) = true := by unfold PyData.canLay0; exact h1
  rw [h3, Bool.true_and, decide_eq_true_eq]
  have := h2 l
  simp only [PyData.depth]
  omega
theorem eqv_strs0 {l : List Str} (h : l ≠ []) : PyData.eqv (.tuple (l.map .str)) (.tuple []) = false := by
  cases l with
  | nil => exact absurd rfl h
  | cons a l => rfl
@[irreducible] def sp_House_join (K : PySem.W.Frag) : Sp := fun vs H Q E => ∃ (G : HG) (x : Str) (t : Addr) (ks : List Str), vs = [.ref G.p, .str x, .ref t] ∧ HouseAt K H G ∧ isName x = true ∧ (G.staff.find? fun l => decide (l.name = x)) = none ∧ SqT K H t (vstrs ks) ∧ ks ≠ [] ∧ ks.length ≤ 1000 ∧ ks.Nodup ∧
  (∀ k ∈ ks, isName k = true ∧ ∃ r, G.er.row k = some r) ∧ G.log.length < 1000000 ∧ G.staff.length < 1000000 ∧ ∀ H' G', Stp K H G H' G' → G'.er = G.er.join x ks → Q .non H'
theorem sc_House_join : FnScope ["self", "worker", "kinds", "kind"] ["self", "worker", "kinds"] (defScope s_House_join) := ⟨rfl, rfl, rfl, by decide +kernel, rfl, by decide +kernel, by decide +kernel⟩
theorem Tp.ok_House_join (T : Tp P w K mg base) : FnR P w K mg base (L2.CX P w) (2 + 1) (He.ma K (He.ga K "House") "join") (sp_House_join K) := by
  refine fnr (N := ["self", "worker", "kinds", "kind"]) (ps := ["self", "worker", "kinds"]) (k := 2) T.fd_House_join sc_House_join (fun _ _ _ _ _ _ us hl => match us, hl with | [_, _, _], _ => rfl) (fun vs H Q E h => ?_) fun cdv A outer s H vs Q E hr h => ?_
  · unfold sp_House_join at h
    obtain ⟨_, _, _, _, rfl, _⟩ := h
    rfl
  unfold sp_House_join at h
  obtain ⟨G, x, t, ks, rfl, hg, hx, hn, ht, hk0, hkl, hkn, hks, hl, hsl, q⟩ := h
  refine ⟨_, (pss_cons (ps_expr (pe_callP T.ok_need_name (rm hr) (kp_of T.fd_need_name) rfl T.g_need_name passE (pa_cons (pv 1) pa_nil)))
      (pss_cons (ps_if (pt_cmp (pc_din (hu_of hr) (pv 1) (pe_fld (pv 0) rfl)) rfl) (pss_one (ps_raise rfl takesE (pmk_own PySem.F.excBase_ValueError T.x_Taken.1 T.g_Taken T.x_Taken.2.1 (raises_own T.x_Taken.2.2.1 T.x_Taken.2.2.2) rfl))) pss_nil)
      (pss_cons (ps_if (PW.pt (pw_or (pt_not (pt_val (pe_callB call_isi rfl T.f_isinstance bt_isinstance (pa_cons (pv 2) (pa_cons (pe_ty rfl T.f_tuple bt_tuple) pa_nil))))) (pw_or (pt_cmpR (op_eqD hr.units) (pv 2) (pe_tup pa_nil) (nomark _)) (pw_or1 (pt_cmpR op_ne (pe_lenSetT rfl T.f_len rfl T.f_set (pv 2)) (pe_callB call_len_seq rfl T.f_len bt_len (pa_cons (pv 2) pa_nil)) (nomark _)))))) (pss_one (ps_raise rfl takesE (pmk_own PySem.F.excBase_ValueError T.x_BadKinds.1 T.g_BadKinds T.x_BadKinds.2.1 (raises_own T.x_BadKinds.2.2.1 T.x_BadKinds.2.2.2) rfl))) pss_nil)
      (pss_cons (ps_for passOwnE rfl (pi_tup (pv 2)) (pg_name (i := 3) sc_House_join.nd rfl (by first | exact .inl rfl | exact .inr rfl)) (pss_one (ps_if (PW.pt (pw_or (pt_not (pt_val (pe_callP T.ok_is_name (rm hr) (kp_of T.fd_is_name) rfl T.g_is_name passE (pa_cons (pv 3) pa_nil)))) (pw_or1 (pt_cmp (pc_dnotin (hu_of hr) (pv 3) (pe_fld (pe_fld (pv 0) rfl) rfl)) rfl)))) (pss_one (ps_raise rfl takesE (pmk_own PySem.F.excBase_ValueError T.x_BadKinds.1 T.g_BadKinds T.x_BadKinds.2.1 (raises_own T.x_BadKinds.2.2.1 T.x_BadKinds.2.2.2) rfl))) pss_nil)))
      (pss_cons (ps_expr (pe_methR (pv 0) T.c_House T.m_House_note T.ok_House_note (rm hr) passE (pa_cons (pe_tup (pa_cons pe_str (pa_cons (pv 1) (pa_cons (pv 2) pa_nil)))) pa_nil)))
      (pss_one (ps_dput (hu_of hr) (pe_fld (pv 0) rfl) (pv 1) (pv 2) rfl))))))), ?_⟩
  refine ⟨_, rfl, needname_ok hx fun H1 s1 => ?_⟩
  have hg1 := hg.same s1
  refine ⟨_, rfl, _, rfl, T.hr_staff hg1 ⟨_, _, rfl, DGet.k (k := Sum.inr x) hg1.sd, ?_⟩⟩
  rw [staff_get, hn]
  refine ⟨_, rfl, iteF ?_⟩
  have t1 := KeepT.same (K := K) s1 _ _ ht
  refine ⟨_, rfl, ⟨_, _, _, _, true, rfl, .ty _, tyx_tup t1, kit_ty (by decide +kernel), ?_⟩⟩
  refine ⟨_, rfl, _, rfl, by show 0 ≤ sizeLine; decide, fun e he => ?_⟩
  have s2 := Same.trans' s1 (same_new (o := .tup []) he)
  have hg2 := hg.same s2
  have t2 := KeepT.same (K := K) s2 _ _ ht
  refine ⟨_, _, (Dt.tup t2 (dts_strs ks)).dp, (Dt.tup (xs := []) (SqT.of upd_same) .nil).dp, shaped_strs fun k hk => name_strOk (hks k hk).1, by decide +kernel, _, rfl, ?_⟩
  rw [eqv_strs0 hk0]
  refine iteF ⟨_, rfl, t, ks, rfl, t2, by omega, _, rfl, t, _, rfl, .inr t2, rfl, _, rfl, ?_⟩
  have e1 : decide (V.int (dcnt ks ks.length : Nat) = V.int ((vstrs ks).length : Nat)) = true := by rw [dcnt_nodup hkn _ (Nat.le_refl _), vstrs, List.length_map]; simp
  rw [e1]
  refine iteF ?_
  refine ⟨_, rfl, t, rfl, ⟨_, t2⟩, for_tup (xs := vstrs ks) (fun i σ H' => ∃ a, σ = [some (.ref G.p), some (.str x), some (.ref t), a] ∧ Same H H') ⟨_, rfl, s2⟩ (fun i σ H' _ ⟨_, _, s⟩ => KeepT.same s _ _ ht) ?_ ?_⟩
  · rintro i v σ H3 ev ⟨a, rfl, s3⟩
    obtain ⟨k, hk, rfl⟩ := List.mem_map.mp (List.mem_of_getElem? ev)
    obtain ⟨h1, r, er'⟩ := hks k hk
    refine ⟨_, rfl, name_ok h1 fun H4 s4 => ⟨_, rfl, ?_⟩⟩
    have s5 := Same.trans' s3 s4
    have hg5 := hg.same s5
    refine ⟨_, rfl, _, rfl, T.hr_limits hg5 (T.mr_rows hg5 ⟨_, _, rfl, DGet.k (k := Sum.inr k) hg5.rd, ?_⟩)⟩
    obtain ⟨j, g, e2, _⟩ := row_some er'
    rw [row_get, e2]
    exact ⟨_, rfl, _, rfl, s5⟩
  · rintro σ H3 ⟨a, rfl, s3⟩
    have hg3 := hg.same s3
    refine ⟨_, rfl, hm hg3 (by kernel_rfl) ⟨_, rfl, _, rfl, by show 3 ≤ sizeLine; decide, fun u hu => ?_⟩⟩
    have s4 := Same.trans' s3 (same_new (o := .tup [.str (Str.ofString "join"), .str x, .ref t]) hu)
    have hg4 := hg.same s4
    have t4 := KeepT.same (K := K) s4 _ _ ht
    have dt : Dt K (upd H3 u (.tup [.str (Str.ofString "join"), .str x, .ref t])) (.ref u) (.tuple [S' "join", .str x, .tuple (ks.map .str)]) := .tup (SqT.of upd_same) (.cons (.str _) (.cons (.str _) (.cons (.tup t4 (dts_strs _)) .nil)))
    refine noted hg4 dt hl fun H5 G5 s5 e5 p5 j5 c5 ck5 st5 h5 => ?_
    have hg5 := s5.at_
    rw [← p5]
    have t5 : SqT K H5 t (vstrs ks) := s5.fr.keepT hg4 _ _ t4
    have hz := nlt
    refine ⟨_, rfl, _, rfl, T.hr_staff hg5 ⟨_, rfl, _, _, rfl, DPut.k (k := Sum.inr x) hg5.sd (by simp only [staffD, List.length_map]; rw [st5]; omega), ?_⟩⟩
    rw [put_staff (by rw [st5]; exact hn)]
    have s6 := stp_putS hg5 (G5.staff ++ [⟨x, ks, t⟩]) fun s hs => by
      rcases List.mem_append.mp hs with z | z
      · exact hg5.staff s z
      · rw [List.mem_singleton.mp z]
        exact t5
    have z := q _ _ ((Stp.same hg s4).trans (s5.trans s6)) ?_
    · have e6 : staffD (G5.staff ++ [⟨x, ks, t⟩]) = staffD G5.staff ++ [(Sum.inr x, .ref t)] := by simp [staffD]
      rw [e6] at z
      exact z
    · have e7 : HG.er { G5 with staff := G5.staff ++ [⟨x, ks, t⟩] } = { G5.er with staff := G5.er.staff ++ [(x, ks)] } := by simp [HG.er]
      rw [e7, e5]
      rfl
end LH
end

section
set_option Elab.async false
set_option linter.all false
set_option maxRecDepth 100000
set_option maxHeartbeats 4000000
set_option pp.maxSteps 1500
namespace LH
open PySem PySem.Spec PyProof.Rows L2 StX LamX
variable {P : Program} {w : World} {K : PySem.W.Frag} {mg : Str → Option Value} {base : Heap}
theorem pi_listK {X : Cx} (K : PySem.W.Frag) (hK : X.K = K) {tg l : Expr} {tl : TE} (hl : PE X l tl) : PI X tg l (iList K tl) := by
  subst hK
  exact pi_list hl
def freesL (h : HouseS) (tick : Int) : List Int := (h.rows.flatMap (·.ticks)).filterMap fun o => if o + 10 > tick then some (o + 10) else none
theorem flat_fm {α β γ : Type} (ys : α → List β) (h : β → Option γ) (l : List α) : (l.flatMap fun b => (ys b).filterMap h) = (l.flatMap ys).filterMap h := by
  induction l with
  | nil => rfl
  | cons a l ih => rw [List.flatMap_cons, List.flatMap_cons, List.filterMap_append, ih]
theorem row_lk {H Hc : Hp} {G : HG} {o : HO} {r : RowG} (hg : HouseAt K H G) (s : Same (upd H G.rd o) Hc) (hr : r ∈ G.rows) : RowAt Hc r :=
  ⟨s _ _ (by rw [upd_ne fun e => hg.ap.br G.rd (mi0 (i := 2)) r.a (mi1 hr) e.symm]; exact (hg.rows r hr).ob), s _ _ (by rw [upd_ne fun e => hg.ap.br G.rd (mi0 (i := 2)) r.tk (mi1t hr) e.symm]; exact (hg.rows r hr).tk)⟩
@[irreducible] def sp_Limits_frees (K : PySem.W.Frag) : Sp := fun vs H Q E => ∃ (G : HG) (tick : Int), vs = [.ref G.lim, .int tick] ∧ HouseAt K H G ∧ (G.rows.flatMap (·.ticks)).length < sizeLine ∧ ∀ H' t, H t = none → Same H H' → H' t = some (.lst (vints (freesL G.er tick))) → Q (.ref t) H'
theorem frees_ok {G : HG} {tick : Int} {H : Hp} {Q : VK} {E : XK} (hg : HouseAt K H G) (hz : (G.rows.flatMap (·.ticks)).length < sizeLine) (q : ∀ H' t, H t = none → Same H H' → H' t = some (.lst (vints (freesL G.er tick))) → Q (.ref t) H') : sp_Limits_frees K [.ref G.lim, .int tick] H Q E := by
  unfold sp_Limits_frees
  exact ⟨G, tick, rfl, hg, hz, q⟩
end LH
end

section
set_option Elab.async false
set_option linter.all false
set_option maxRecDepth 100000
set_option maxHeartbeats 4000000
set_option pp.maxSteps 1500
namespace LH
open PySem PySem.Spec PyProof.Rows L2 StX LamX
variable {P : Program} {w : World} {K : PySem.W.Frag} {mg : Str → Option Value} {base : Heap}
theorem minOf_spec : ∀ {l : List Int} {m : Int}, HouseS.minOf l = some m → m ∈ l ∧ ∀ a ∈ l, m ≤ a
  | [], _, h => by cases h
  | x :: xs, m, h => by
    have e : xs.foldl min x = m := Option.some.inj h
    have z : ∀ (xs : List Int) (x : Int), (xs.foldl min x ∈ x :: xs) ∧ ∀ a ∈ x :: xs, xs.foldl min x ≤ a := by
      intro xs
      induction xs with
      | nil => exact fun x => ⟨List.mem_cons_self, fun a ha => by rw [List.mem_singleton.mp ha]; exact Int.le_refl _⟩
      | cons y xs ih =>
        intro x
        obtain ⟨h1, h2⟩ := ih (min x y)
        rw [List.foldl_cons]
        have h3 := h2 _ List.mem_cons_self
        refine ⟨?_, fun a ha => ?_⟩
        · rcases List.mem_cons.mp h1 with q | q
          · rw [q]
            by_cases hxy : x ≤ y
            · rw [show min x y = x by omega]
              exact List.mem_cons_self
            · rw [show min x y = y by omega]
              exact List.mem_cons_of_mem _ List.mem_cons_self
          · exact List.mem_cons_of_mem _ (List.mem_cons_of_mem _ q)
        · rcases List.mem_cons.mp ha with q | q
          · omega
          · rcases List.mem_cons.mp q with q | q
            · omega
            · exact h2 a (List.mem_cons_of_mem _ q)
    rw [← e]
    exact z xs x
theorem minOf_uniq {l : List Int} {m k : Int} (h : HouseS.minOf l = some m) (hk : k ∈ l) (hle : ∀ a ∈ l, k ≤ a) : k = m := by
  obtain ⟨h1, h2⟩ := minOf_spec h
  have := h2 k hk
  have := hle m h1
  omega
theorem minOf_some {l : List Int} (h : l ≠ []) : ∃ m, HouseS.minOf l = some m := by
  cases l with
  | nil => exact absurd rfl h
  | cons x xs => exact ⟨_, rfl⟩
def optI : Option Int → V
  | none => .non
  | some i => .int i
theorem ticks_ok {G : HG} {H : Hp} {Q : VK} {E : XK} (hg : HouseAt K H G) (hl : G.cnt.length + G.clks.length < sizeLine) (q : ∀ H' t, H t = none → Same H H' → H' t = some (.lst (vints G.er.nextTicks)) → Q (.ref t) H') : sp_House_next_ticks K [.ref G.p] H Q E := by
  unfold sp_House_next_ticks
  exact ⟨G, rfl, hg, hl, q⟩
theorem ticks_len (h : HouseS) : h.nextTicks.length ≤ h.cnt.length + h.clks.length := by
  unfold HouseS.nextTicks
  rw [List.length_append, List.length_map, List.length_map]
  have := List.length_filter_le (fun c : ClockS => decide (c.left > 0)) h.clks
  omega
theorem rows_ticks {h : HouseS} (ok : HouseOk h) : (h.rows.flatMap (·.ticks)).length ≤ 8000000 := by
  have h1 := ok.sizes.2.2.2.2.2.1
  have h2 := ok.sizes.2.2.2.2.2.2
  have z : ∀ l : List RowS, (∀ r ∈ l, r.ticks.length ≤ 1000000) → (l.flatMap (·.ticks)).length ≤ l.length * 1000000 := by
    intro l
    induction l with
    | nil => intro _; simp
    | cons a l ih =>
      intro hl
      rw [List.flatMap_cons, List.length_append, List.length_cons]
      have a1 := hl a List.mem_cons_self
      have a2 := ih fun r hr => hl r (List.mem_cons_of_mem _ hr)
      omega
  have := z h.rows h2
  omega
theorem er_flat (G : HG) : (G.rows.flatMap (·.ticks)).length = (G.er.rows.flatMap (·.ticks)).length := by
  unfold HG.er
  simp only [List.flatMap_map]
theorem frees_len (h : HouseS) (t : Int) : (freesL h t).length ≤ (h.rows.flatMap (·.ticks)).length := List.length_filterMap_le _ _
theorem dts_ints {H : Hp} : ∀ (l : List Int), Dts K H (vints l) (l.map I')
  | [] => .nil
  | n :: l => .cons (.int _) (dts_ints l)
theorem shaped_ints (l : List Int) : SeqAt.shaped (.list (l.map I')) = true := by
  have h1 : PyData.canLayAll0 (l.map I') = true := by
    induction l with
    | nil => rfl
    | cons a l ih =>
      rw [List.map_cons]
      unfold PyData.canLayAll0
      rw [ih, Bool.and_true]
      rfl
  have h2 : ∀ l : List Int, PyData.depthAll (l.map I') ≤ 1 := fun l => by
    induction l with
    | nil => simp [PyData.depthAll]
    | cons a l ih =>
      simp only [List.map_cons, PyData.depthAll, PyData.depth]
      omega
  unfold SeqAt.shaped
  have h3 : PyData.canLay0 (.list (l.map I')) = true := by unfold PyData.canLay0; exact h1
  rw [h3, Bool.true_and, decide_eq_true_eq]
  have := h2 l
  simp only [PyData.depth]
  omega
theorem dp_ints {H : Hp} {t : Addr} {l : List Int} (h : H t = some (.lst (vints l))) : Dp K H (.ref t) (.list (l.map I')) := .lst (SqL.of h) (dts_ints l).dp
theorem eqv_ints0 (l : List Int) : PyData.eqv (.list (l.map I')) (.list []) = decide (l = []) := by
  cases l with
  | nil => rfl
  | cons a l => rfl
@[irreducible] def sp_House_next_due (K : PySem.W.Frag) : Sp := fun vs H Q E => ∃ G : HG, vs = [.ref G.p] ∧ HouseAt K H G ∧ HouseOk G.er ∧ ∀ H', Same H H' → Q (optI G.er.nextDue) H'
theorem due_ok {G : HG} {H : Hp} {Q : VK} {E : XK} (hg : HouseAt K H G) (ok : HouseOk G.er) (q : ∀ H', Same H H' → Q (optI G.er.nextDue) H') : sp_House_next_due K [.ref G.p] H Q E := by
  unfold sp_House_next_due
  exact ⟨G, rfl, hg, ok, q⟩
end LH
end

section
set_option Elab.async false
set_option linter.all false
set_option maxRecDepth 100000
set_option maxHeartbeats 4000000
namespace LH
open PySem PySem.Spec PyProof.Rows L2
/-! ### strike as one step -/
def dueC (t : Int) (c : ClockS) : Bool := decide (c.left > 0 ∧ c.coming = t)
def bumpC (t : Int) (c : ClockS) : ClockS := if dueC t c = true then { c with left := c.left - 1, coming := c.coming + c.every } else c
def bornC (t here : Int) (c : ClockS) : JobS := ⟨c.rank, t, c.steps, [], c.tries, 0, 0, 0, none, none, here⟩
theorem strike_eq (h : HouseS) (t : Int) : h.strike t = { h with jobs := h.jobs ++ (h.clks.filter (dueC t)).map (bornC t h.here), clks := h.clks.map (bumpC t) } := by
  have z : ∀ i, i ≤ h.clks.length → (List.range i).foldl (HouseS.strikeAt t) h = { h with jobs := h.jobs ++ ((h.clks.take i).filter (dueC t)).map (bornC t h.here), clks := (h.clks.take i).map (bumpC t) ++ h.clks.drop i } := by
    intro i
    induction i with
    | zero => intro _; simp
    | succ i ih =>
      intro hi
      rw [List.range_succ, List.foldl_append, ih (by omega), List.foldl_cons, List.foldl_nil]
      have hlt : i < h.clks.length := hi
      have e : h.clks[i]? = some h.clks[i] := List.getElem?_eq_getElem hlt
      unfold HouseS.strikeAt
      simp only [half_get, e]
      have ef : (h.clks.take (i + 1)).filter (dueC t) = (h.clks.take i).filter (dueC t) ++ if dueC t h.clks[i] = true then [h.clks[i]] else [] := by
        rw [List.take_succ, e, List.filter_append]
        simp [List.filter_cons]
      by_cases hd : h.clks[i].left > 0 ∧ h.clks[i].coming = t
      · have hd' : dueC t h.clks[i] = true := by unfold dueC; exact decide_eq_true hd
        rw [if_pos hd, half_next e, ef, if_pos hd']
        unfold bumpC
        simp only [hd', if_true]
        unfold HouseS.newJob
        simp [bornC]
      · have hd' : dueC t h.clks[i] = false := by unfold dueC; exact decide_eq_false hd
        have eb : bumpC t h.clks[i] = h.clks[i] := by unfold bumpC; rw [hd']; rfl
        rw [if_neg hd, half_same e eb, ef, hd']
        simp
  unfold HouseS.strike
  rw [z _ (Nat.le_refl _), List.take_length, List.drop_length, List.append_nil]
theorem bump_sum (t : Int) : ∀ l : List ClockS, ((l.map (bumpC t)).map fun c => c.left.toNat).sum + (l.filter (dueC t)).length = (l.map fun c => c.left.toNat).sum
  | [] => rfl
  | c :: l => by
    have ih := bump_sum t l
    rw [List.map_cons, List.map_cons, List.sum_cons, List.map_cons, List.sum_cons, List.filter_cons]
    by_cases hd : dueC t c = true
    · rw [if_pos hd, List.length_cons]
      have h1 : (bumpC t c).left = c.left - 1 := by unfold bumpC; rw [if_pos hd]
      rw [h1]
      unfold dueC at hd
      have := (of_decide_eq_true hd).1
      omega
    · rw [if_neg hd]
      have h1 : bumpC t c = c := by unfold bumpC; rw [if_neg hd]
      rw [h1]
      omega
theorem newJobs_ok {h : HouseS} (ok : HouseOk h) : ∀ (l : List ClockS) (t : Int), (∀ c ∈ l, c.steps ≠ [] ∧ (∀ s ∈ c.steps, ∃ r, h.row s = some r) ∧ c.steps.length ≤ 5 ∧ (1 ≤ c.tries ∧ c.tries ≤ 9) ∧ 1 ≤ c.every) →
    h.jobs.length + l.length + h.clks.length + (h.clks.map fun c => c.left.toNat).sum ≤ 900000 → HouseOk { h with jobs := h.jobs ++ l.map (bornC t h.here) }
  | [], t, _, _ => by simpa using ok
  | c :: l, t, hc, hl => by
    obtain ⟨a, b, d, e, _⟩ := hc c List.mem_cons_self
    rw [List.length_cons] at hl
    have ok1 := ok.newJob (rank := c.rank) (til := t) (most := c.tries) (steps := c.steps) (needs := []) a b (fun n hn => by cases hn) (by simp) d e (by omega) (.inl rfl)
    have z := newJobs_ok ok1 l t (fun x hx => hc x (List.mem_cons_of_mem _ hx)) (by
      show (h.jobs ++ [_]).length + l.length + h.clks.length + (h.clks.map fun c => c.left.toNat).sum ≤ _
      rw [List.length_append, List.length_singleton]
      omega)
    have e1 : h.jobs ++ (c :: l).map (bornC t h.here) = (h.newJob c.rank t c.steps [] c.tries).jobs ++ l.map (bornC t h.here) := by
      show _ = (h.jobs ++ [bornC t h.here c]) ++ _
      simp
    rw [e1]
    exact z
theorem HouseOk.bump {h : HouseS} (ok : HouseOk h) (t : Int) : HouseOk { h with clks := h.clks.map (bumpC t) } := by
  have hs := bump_sum t h.clks
  refine ⟨ok.rows, ok.jobs, ok.cnt, ok.nums, ok.held, ok.staff, ok.pause, ok.needy, ⟨ok.sizes.1, ok.sizes.2.1, ok.sizes.2.2.1, ?_, ok.sizes.2.2.2.2⟩, ok.alive, fun c hc => ?_, ?_⟩
  · show (h.clks.map (bumpC t)).length ≤ _
    rw [List.length_map]
    exact ok.sizes.2.2.2.1
  · obtain ⟨c0, h0, rfl⟩ := List.mem_map.mp hc
    have := ok.clks c0 h0
    unfold bumpC
    split
    · exact this
    · exact this
  · show h.jobs.length + (h.clks.map (bumpC t)).length + ((h.clks.map (bumpC t)).map fun c => c.left.toNat).sum ≤ _
    rw [List.length_map]
    have := ok.pot
    omega
theorem HouseOk.strike {h : HouseS} (ok : HouseOk h) (t : Int) : HouseOk (h.strike t) := by
  have hs := bump_sum t h.clks
  rw [strike_eq]
  refine newJobs_ok (ok.bump t) (h.clks.filter (dueC t)) t (fun c hc => ok.clks c (List.mem_filter.mp hc).1) ?_
  show h.jobs.length + (h.clks.filter (dueC t)).length + (h.clks.map (bumpC t)).length + ((h.clks.map (bumpC t)).map fun c => c.left.toNat).sum ≤ _
  rw [List.length_map]
  have := ok.pot
  omega
/-! ### what holds of the ticks, when nothing is under way -/
structure Timely (h : HouseS) : Prop where
  lease : ∀ l ∈ h.cnt, h.here < l.til
  clock : ∀ c ∈ h.clks, c.left > 0 → h.here < c.coming
  hold : 1 ≤ h.hold
theorem strike_clock {h : HouseS} (ok : HouseOk h) {t : Int} (hc : ∀ c ∈ h.clks, c.left > 0 → t ≤ c.coming) : ∀ c ∈ (h.strike t).clks, c.left > 0 → t < c.coming := by
  rw [strike_eq]
  intro c hc'
  obtain ⟨c0, h0, rfl⟩ := List.mem_map.mp hc'
  obtain ⟨_, _, _, _, e⟩ := ok.clks c0 h0
  unfold bumpC
  intro hl
  split at hl
  · rename_i hd
    rw [if_pos hd]
    unfold dueC at hd
    have := (of_decide_eq_true hd).2
    show t < c0.coming + c0.every
    omega
  · rename_i hd
    rw [if_neg hd]
    have h1 := hc c0 h0 hl
    unfold dueC at hd
    have h2 : ¬ (c0.left > 0 ∧ c0.coming = t) := by simpa using hd
    have : c0.coming ≠ t := fun z => h2 ⟨hl, z⟩
    omega
/-! ### the leases that are over -/
def overAt (t : Int) (h : HouseS) (l : LeaseS) : HouseS := if l.til = t then h.failOne l else h
theorem failOne_rest {h : HouseS} (ok : HouseOk h) {l : LeaseS} (hl : l ∈ h.cnt) : (h.failOne l).cnt = (h.cnt.filter fun o => decide (o.num ≠ l.num)) ∧ (h.failOne l).here = h.here ∧ (h.failOne l).clks = h.clks ∧ (h.failOne l).hold = h.hold ∧ (h.failOne l).pause = h.pause ∧ (h.failOne l).staff = h.staff ∧ (h.failOne l).log = h.log ∧ (h.failOne l).given = h.given ∧ (h.failOne l).jobs.length = h.jobs.length ∧ (h.failOne l).hands = h.hands ∧ (h.failOne l).age = h.age := by
  obtain ⟨j, ej, _⟩ := lease_jobS ok hl
  unfold HouseS.failOne HouseS.closed
  rw [ej]
  unfold HouseS.jobUp
  show (match h.jobs[l.work]? with | none => _ | some j => _ : HouseS).cnt = _ ∧ (match h.jobs[l.work]? with | none => _ | some j => _ : HouseS).here = _ ∧ (match h.jobs[l.work]? with | none => _ | some j => _ : HouseS).clks = _ ∧ (match h.jobs[l.work]? with | none => _ | some j => _ : HouseS).hold = _ ∧ (match h.jobs[l.work]? with | none => _ | some j => _ : HouseS).pause = _ ∧ (match h.jobs[l.work]? with | none => _ | some j => _ : HouseS).staff = _ ∧ (match h.jobs[l.work]? with | none => _ | some j => _ : HouseS).log = _ ∧ (match h.jobs[l.work]? with | none => _ | some j => _ : HouseS).given = _ ∧ (match h.jobs[l.work]? with | none => _ | some j => _ : HouseS).jobs.length = _ ∧ (match h.jobs[l.work]? with | none => _ | some j => _ : HouseS).hands = _ ∧ (match h.jobs[l.work]? with | none => _ | some j => _ : HouseS).age = _
  rw [ej]
  refine ⟨rfl, rfl, rfl, rfl, rfl, rfl, rfl, rfl, ?_, rfl, rfl⟩
  show (h.jobs.set l.work _).length = _
  rw [List.length_set]
theorem fold_over (t : Int) : ∀ (ls : List LeaseS) (h : HouseS), HouseOk h → (∀ l ∈ ls, l ∈ h.cnt) → (ls.map (·.num)).Nodup →
    HouseOk (ls.foldl (overAt t) h) ∧ (∀ o ∈ (ls.foldl (overAt t) h).cnt, o ∈ h.cnt ∧ (o.til = t → o ∉ ls)) ∧ (ls.foldl (overAt t) h).here = h.here ∧ (ls.foldl (overAt t) h).clks = h.clks ∧ (ls.foldl (overAt t) h).hold = h.hold
  | [], h, ok, _, _ => ⟨ok, fun o ho => ⟨ho, fun _ z => by cases z⟩, rfl, rfl, rfl⟩
  | l :: ls, h, ok, hm, nd => by
    rw [List.map_cons, List.nodup_cons] at nd
    rw [List.foldl_cons]
    have hl := hm l List.mem_cons_self
    by_cases ht : l.til = t
    · have e : overAt t h l = h.failOne l := by unfold overAt; rw [if_pos ht]
      obtain ⟨r1, r2, r3, r4, _⟩ := failOne_rest ok hl
      obtain ⟨a, b, c, d, f⟩ := fold_over t ls (h.failOne l) (ok.failOne hl) (fun o ho => by
        rw [r1]
        refine List.mem_filter.mpr ⟨hm o (List.mem_cons_of_mem _ ho), ?_⟩
        have : o.num ≠ l.num := fun z => nd.1 (by rw [← z]; exact List.mem_map_of_mem ho)
        simpa using this) nd.2
      rw [e]
      refine ⟨a, fun o ho => ?_, c.trans r2, d.trans r3, f.trans r4⟩
      obtain ⟨h1, h2⟩ := b o ho
      rw [r1] at h1
      obtain ⟨h3, h4⟩ := List.mem_filter.mp h1
      refine ⟨h3, fun z m => ?_⟩
      rcases List.mem_cons.mp m with q | q
      · rw [q] at h4
        simp at h4
      · exact h2 z q
    · have e : overAt t h l = h := by unfold overAt; rw [if_neg ht]
      rw [e]
      obtain ⟨a, b, c, d, f⟩ := fold_over t ls h ok (fun o ho => hm o (List.mem_cons_of_mem _ ho)) nd.2
      refine ⟨a, fun o ho => ?_, c, d, f⟩
      obtain ⟨h1, h2⟩ := b o ho
      refine ⟨h1, fun z m => ?_⟩
      rcases List.mem_cons.mp m with q | q
      · exact ht (by rw [← q]; exact z)
      · exact h2 z q
theorem HouseOk.here {h : HouseS} (ok : HouseOk h) (t : Int) : HouseOk { h with here := t } := ⟨ok.rows, ok.jobs, ok.cnt, ok.nums, ok.held, ok.staff, ok.pause, ok.needy, ok.sizes, ok.alive, ok.clks, ok.pot⟩
theorem byNum_mem (h : HouseS) (l : LeaseS) : l ∈ h.byNum ↔ l ∈ h.cnt := by rw [HouseS.byNum_eq]; exact List.mem_mergeSort
theorem byNum_nodup {h : HouseS} (ok : HouseOk h) : (h.byNum.map (·.num)).Nodup := by
  have p : h.byNum.Perm h.cnt := by rw [HouseS.byNum_eq]; exact List.mergeSort_perm _ _
  exact ((p.map (·.num)).nodup_iff).mpr ok.nums
theorem turnTo_ok {h : HouseS} (ok : HouseOk h) (ti : Timely h) {t : Int} (ht : HouseS.minOf h.nextTicks = some t) : HouseOk (h.turnTo t) ∧ Timely (h.turnTo t) ∧ (h.turnTo t).here = t ∧ h.here < t := by
  obtain ⟨hm, hle⟩ := minOf_spec ht
  have lt : h.here < t := by
    unfold HouseS.nextTicks at hm
    rcases List.mem_append.mp hm with z | z
    · obtain ⟨l, hl, rfl⟩ := List.mem_map.mp z
      exact ti.lease l hl
    · obtain ⟨c, hc, rfl⟩ := List.mem_map.mp z
      obtain ⟨h1, h2⟩ := List.mem_filter.mp hc
      exact ti.clock c h1 (of_decide_eq_true h2)
  have gl : ∀ l ∈ h.cnt, t ≤ l.til := fun l hl => hle _ (by
    unfold HouseS.nextTicks
    exact List.mem_append_left _ (List.mem_map.mpr ⟨l, hl, rfl⟩))
  have gc : ∀ c ∈ h.clks, c.left > 0 → t ≤ c.coming := fun c hc hl => hle _ (by
    unfold HouseS.nextTicks
    exact List.mem_append_right _ (List.mem_map.mpr ⟨c, List.mem_filter.mpr ⟨hc, decide_eq_true hl⟩, rfl⟩))
  obtain ⟨a, b, c, d, f⟩ := fold_over t (HouseS.byNum { h with here := t }) { h with here := t } (ok.here t) (fun l hl => (byNum_mem _ l).mp hl) (byNum_nodup (ok.here t))
  have e : h.turnTo t = ((HouseS.byNum { h with here := t }).foldl (overAt t) { h with here := t }).strike t := rfl
  rw [e]
  generalize (HouseS.byNum { h with here := t }).foldl (overAt t) { h with here := t } = h2 at a b c d f ⊢
  have c' : h2.here = t := c
  have cc := strike_clock a (t := t) (by rw [d]; exact gc)
  refine ⟨a.strike t, ⟨fun l hl => ?_, fun k hk hl => ?_, ?_⟩, ?_, lt⟩
  · rw [strike_eq] at hl ⊢
    show h2.here < l.til
    obtain ⟨h3, h4⟩ := b l hl
    have h5 := gl l h3
    have h6 : l.til ≠ t := fun z => h4 z ((byNum_mem _ l).mpr h3)
    omega
  · have h7 := cc k hk hl
    rw [strike_eq]
    show h2.here < k.coming
    omega
  · rw [strike_eq]
    show 1 ≤ h2.hold
    rw [f]
    exact ti.hold
  · rw [strike_eq]
    exact c'
theorem turnIn_zero {tick : Int} {h : HouseS} (ok : HouseOk h) (ti : Timely h) (h0 : (tick - h.here).toNat = 0) : ∀ f, HouseS.turnIn tick f h = { h with here := tick }
  | 0 => rfl
  | f + 1 => by
    unfold HouseS.turnIn
    cases em : HouseS.minOf h.nextTicks with
    | none => rfl
    | some t =>
      obtain ⟨_, _, _, lt⟩ := turnTo_ok ok ti em
      simp only
      rw [if_neg (by omega)]
theorem turnIn_fuel {tick : Int} : ∀ (f g : Nat) (h : HouseS), HouseOk h → Timely h → (tick - h.here).toNat ≤ f → (tick - h.here).toNat ≤ g → HouseS.turnIn tick f h = HouseS.turnIn tick g h := by
  intro f
  induction f with
  | zero =>
    intro g h ok ti hf hg
    rw [turnIn_zero ok ti (by omega), turnIn_zero ok ti (by omega)]
  | succ f ih =>
    intro g h ok ti hf hg
    cases g with
    | zero => rw [turnIn_zero ok ti (by omega), turnIn_zero ok ti (by omega)]
    | succ g =>
      unfold HouseS.turnIn
      cases em : HouseS.minOf h.nextTicks with
      | none => rfl
      | some t =>
        obtain ⟨ok1, ti1, e1, lt⟩ := turnTo_ok ok ti em
        simp only
        by_cases hle : t ≤ tick
        · rw [if_pos hle, if_pos hle, ih g _ ok1 ti1 (by rw [e1]; omega) (by rw [e1]; omega)]
        · rw [if_neg hle, if_neg hle]
/-- turn by one step, or by none -/
def turnLeft (tick : Int) (h : HouseS) : HouseS := HouseS.turnIn tick (tick - h.here).toNat h
theorem turnLeft_end {tick : Int} {h : HouseS} (hn : ∀ t, HouseS.minOf h.nextTicks = some t → ¬ t ≤ tick) : turnLeft tick h = { h with here := tick } := by
  unfold turnLeft
  cases (tick - h.here).toNat with
  | zero => rfl
  | succ f =>
    unfold HouseS.turnIn
    cases em : HouseS.minOf h.nextTicks with
    | none => rfl
    | some t =>
      simp only
      rw [if_neg (hn t em)]
theorem turnLeft_step {tick : Int} {h : HouseS} (ok : HouseOk h) (ti : Timely h) {t : Int} (em : HouseS.minOf h.nextTicks = some t) (hle : t ≤ tick) : turnLeft tick h = turnLeft tick (h.turnTo t) := by
  obtain ⟨ok1, ti1, e1, lt⟩ := turnTo_ok ok ti em
  obtain ⟨f, hf⟩ : ∃ f, (tick - h.here).toNat = f + 1 := ⟨(tick - h.here).toNat - 1, by omega⟩
  show HouseS.turnIn tick (tick - h.here).toNat h = _
  rw [hf]
  unfold HouseS.turnIn
  rw [em]
  simp only
  rw [if_pos hle]
  exact turnIn_fuel _ _ _ ok1 ti1 (by rw [e1]; omega) (Nat.le_refl _)
end LH
end

section
set_option Elab.async false
set_option linter.all false
set_option maxRecDepth 100000
set_option maxHeartbeats 4000000
set_option pp.maxSteps 1500
namespace LH
open PySem PySem.Spec PyProof.Rows L2 StX LamX
variable {P : Program} {w : World} {K : PySem.W.Frag} {mg : Str → Option Value} {base : Heap}
theorem er_here {G : HG} {t : Int} : HG.er { G with here := t } = { G.er with here := t } := rfl
def sortC (l : List LeaseG) : List LeaseG := l.mergeSort (PySem.W.dataLe false fun l => N' l.num)
theorem sortC_mem {l : List LeaseG} {x : LeaseG} : x ∈ sortC l ↔ x ∈ l := List.mem_mergeSort
theorem sortC_er (G : HG) : (sortC G.cnt).map (·.toLeaseS) = G.er.byNum := by
  rw [HouseS.byNum_eq]
  unfold sortC HG.er
  simp only
  rw [List.map_mergeSort]
  intro a _ b _
  rfl
theorem frS {td : TE} {g : TG} {tb u : TS} {D : Ends} {σ : L2.St} {H : Hp} (h : td σ H fun x H1 => ∃ a, x = .ref a ∧ (∃ xs, SqL K H1 a xs) ∧ tFor (fun _ H2 R => R (Itl K a) H2) g tb { D with nx := u D } σ H1) : tSeq (tFor (iList K td) g tb) u D σ H := h
@[irreducible] def sp_House_turn (K : PySem.W.Frag) : Sp := fun vs H Q E => ∃ (G : HG) (tick : Int), vs = [.ref G.p, .int tick] ∧ HouseAt K H G ∧ HouseOk G.er ∧ Timely G.er ∧ Tabs (TT K) H ∧ (G.here ≤ tick ∧ tick ≤ 99999) ∧ G.log.length < 1000000 ∧
  ∀ H' G', Stp K H G H' G' → G'.er = G.er.turn tick → Q .non H'
theorem sc_House_turn : FnScope ["self", "tick", "coming", "lease", "one"] ["self", "tick"] (defScope s_House_turn) := ⟨rfl, rfl, rfl, by decide +kernel, rfl, by decide +kernel, by decide +kernel⟩
theorem Tp.ok_House_turn (T : Tp P w K mg base) : FnR P w K mg base (L2.CX P w) (3 + 1) (He.ma K (He.ga K "House") "turn") (sp_House_turn K) := by
  refine fnrC (N := ["self", "tick", "coming", "lease", "one"]) (ps := ["self", "tick"]) (k := 3) ("House", some "turn") rfl T.fd_House_turn sc_House_turn (fun _ _ _ _ _ _ us hl => match us, hl with | [_, _], _ => rfl) (fun vs H Q E h => ?_) fun cdv A outer s H vs Q E hr hc h => ?_
  · unfold sp_House_turn at h
    obtain ⟨_, _, rfl, _⟩ := h
    rfl
  unfold sp_House_turn at h
  obtain ⟨G, tick, rfl, hg, ok, ti, tb, ht, hl, q⟩ := h
  refine ⟨_, (pss_cons (ps_expr (pe_callP T.ok_need_tick (rm hr) (kp_of T.fd_need_tick) rfl T.g_need_tick passE (pa_cons (pv 1) (pa_cons (pe_fld (pv 0) rfl) pa_nil))))
      (pss_cons (ps_expr (pe_methR (pv 0) T.c_House T.m_House_note T.ok_House_note (rm hr) passE (pa_cons (pe_tup (pa_cons pe_str (pa_cons (pv 1) pa_nil))) pa_nil)))
      (pss_cons (ps_set (i := 2) sc_House_turn.nd rfl (by first | exact .inl rfl | exact .inr rfl) (pe_methR0 (pv 0) T.c_House T.m_House_next_ticks T.ok_House_next_ticks (rm hr) passE))
      (pss_cons (ps_while passOwnE (PW.pt (pw_and (pt_cmpR (op_neD hr.units) (pv 2) (pe_lst pa_nil) (nomark _)) (pw_and1 (pt_cmpR op_le (pe_callB (cr_min rfl) rfl T.f_min bt_min (pa_cons (pv 2) pa_nil)) (pv 1) (nomark _))))) (pss_cons (ps_fld (pv 0) (pe_callB (cr_min rfl) rfl T.f_min bt_min (pa_cons (pv 2) pa_nil)) rfl)
      (pss_cons (ps_for passOwnE rfl (pi_list (pe_sortV (i := 4) rfl rfl T.f_sorted (pe_fld (pv 0) rfl) sc_House_turn.nd rfl T.tab_House_turn.tb hc T.tab_House_turn.mem T.tab_House_turn.uniq hr (lam1_by (sc := defScope s_House_turn) (by decide +kernel)) rfl (fun _ _ _ _ _ _ => rfl) (fun _ _ _ _ _ _ hr => (pe_fldK K rfl (pv 4) rfl)))) (pg_name (i := 3) sc_House_turn.nd rfl (by first | exact .inl rfl | exact .inr rfl)) (pss_one (ps_if (pt_cmpR op_eq (pe_fld (pv 3) rfl) (pe_fld (pv 0) rfl) (nomark _)) (pss_one (ps_expr (pe_methR (pe_methR (pv 0) T.c_House T.m_House_closed T.ok_House_closed (rm hr) passE (pa_cons (pv 3) pa_nil)) T.c_Job T.m_Job_step_failed T.ok_Job_step_failed (rm hr) passE (pa_cons (pe_fld (pv 0) rfl) (pa_cons (pe_fld (pv 0) rfl) pa_nil))))) pss_nil)))
      (pss_cons (ps_expr (pe_methR (pv 0) T.c_House T.m_House_strike T.ok_House_strike (rm hr) passE (pa_cons (pe_fld (pv 0) rfl) pa_nil)))
      (pss_one (ps_set (i := 2) sc_House_turn.nd rfl (by first | exact .inl rfl | exact .inr rfl) (pe_methR0 (pv 0) T.c_House T.m_House_next_ticks T.ok_House_next_ticks (rm hr) passE)))))))
      (pss_one (ps_fld (pv 0) (pv 1) rfl)))))), ?_⟩
  refine ⟨_, rfl, _, rfl, T.hr_here hg (tick_ok ht ?_)⟩
  refine ⟨_, rfl, hm hg (by kernel_rfl) ⟨_, rfl, by show 2 ≤ sizeLine; decide, fun u hu => ?_⟩⟩
  have s1 := same_new (o := .tup [.str (Str.ofString "turn"), .int tick]) hu
  have hg1 := hg.same s1
  have dt : Dt K (upd H u (.tup [.str (Str.ofString "turn"), .int tick])) (.ref u) (.tuple [S' "turn", I' tick]) := .tup (SqT.of upd_same) (.cons (.str _) (.cons (.int _) .nil))
  refine noted hg1 dt hl fun H2 G2 s2 e2 p2 j2 c2 ck2 st2 h2 => ?_
  have hg2 := s2.at_
  have ok2 : HouseOk G2.er := by rw [e2]; exact ok.note _ (by rw [er_log_len]; exact hl)
  have ti2 : Timely G2.er := by rw [e2]; exact ⟨ti.lease, ti.clock, ti.hold⟩
  have s02 := (Stp.same hg s1).trans s2
  have sz : ∀ Gi : HG, HouseOk Gi.er → Gi.cnt.length + Gi.clks.length < sizeLine := fun Gi oki => by
    have z1 := oki.sizes.2.1
    have z2 := oki.sizes.2.2.2.1
    rw [er_cnt_len] at z1
    rw [er_clks_len] at z2
    have hline : sizeLine = 16777216 := by decide
    omega
  rw [← p2]
  refine ⟨_, rfl, hm hg2 (by kernel_rfl) (ticks_ok hg2 (sz _ ok2) fun H3 t3 n3 s3 e3 => ?_)⟩
  have hg3 := hg2.same s3
  have s03 := s02.trans (Stp.same hg2 s3)
  have tot : turnLeft tick G2.er = G.er.turn tick := by
    rw [e2]
    rfl
  refine ⟨fun m σ H' => ∃ (Gi : HG) (tc : Addr) (x : Option V), m = (tick - Gi.here).toNat ∧ σ = [some (.ref G2.p), some (.int tick), some (.ref tc), x, none] ∧ Stp K H G H' Gi ∧ Gi.p = G2.p ∧ HouseOk Gi.er ∧ Timely Gi.er ∧ H' tc = some (.lst (vints Gi.er.nextTicks)) ∧
    turnLeft tick Gi.er = G.er.turn tick, ⟨_, G2, t3, none, rfl, rfl, s03, rfl, ok2, ti2, e3, tot⟩, ?_⟩
  rintro m σ H4 ⟨Gi, tc, x, rfl, rfl, st, ep, oki, tii, etc, toti⟩
  have hgi := st.at_
  refine ⟨_, rfl, by show 0 ≤ sizeLine; decide, fun e he => ?_⟩
  have s5 := same_new (o := .lst []) he
  refine ⟨_, _, dp_ints (s5 _ _ etc), .lst (SqL.of upd_same) .nil, shaped_ints _, by decide +kernel, _, rfl, ?_⟩
  rw [eqv_ints0]
  have st5 := st.trans (Stp.same hgi s5)
  have hg5 := hgi.same s5
  have endq : ∀ (H6 : Hp), Stp K H G H6 Gi → (∀ t, HouseS.minOf Gi.er.nextTicks = some t → ¬ t ≤ tick) → Q .non (upd H6 Gi.p (.ins (cH K) Gi.dx (houseFs { Gi with here := tick }))) := fun H6 s6 hn => by
    refine q _ { Gi with here := tick } (s6.trans (stp_putP s6.at_ rfl)) ?_
    rw [er_here, ← turnLeft_end hn, toti]
  by_cases hM : Gi.er.nextTicks = []
  · refine nF hM (iteF ?_)
    refine ⟨_, rfl, _, rfl, ?_⟩
    rw [← ep]
    refine T.hw_here hg5 tick ?_
    refine endq _ st5 fun t z => ?_
    rw [hM] at z
    cases z
  · obtain ⟨k, hk⟩ := minOf_some hM
    refine nT hM ?_
    refine ⟨_, rfl, tc, _, rfl, SqL.of (s5 _ _ etc), List.length_pos_iff.mpr hM, fun m' hm' hle => ?_⟩
    rw [minOf_uniq hk hm' hle]
    refine ⟨_, rfl, _, _, rfl, rfl, _, rfl, ?_⟩
    by_cases hle2 : k ≤ tick
    · obtain ⟨okT, tiT, eT, ltT⟩ := turnTo_ok oki tii hk
      have stepT := turnLeft_step oki tii hk hle2
      refine dT hle2 ⟨fun σ' H' => ∃ (Gj : HG) (tj : Addr) (xj : Option V), σ' = [some (.ref G2.p), some (.int tick), some (.ref tj), xj, none] ∧ Stp K H G H' Gj ∧ Gj.p = G2.p ∧ Gj.er = Gi.er.turnTo k ∧ H' tj = some (.lst (vints Gj.er.nextTicks)), ?_, ?_⟩
      · rintro σ' H' ⟨Gj, tj, xj, rfl, stj, pj, ej, etj⟩
        have hj : Gj.here = k := by
          show Gj.er.here = k
          rw [ej]
          exact eT
        have lt2 : Gi.here < k := ltT
        exact ⟨(tick - Gj.here).toNat, by omega, Gj, tj, xj, rfl, rfl, stj, pj, by rw [ej]; exact okT, by rw [ej]; exact tiT, etj, by rw [ej, ← stepT]; exact toti⟩
      · refine ⟨_, rfl, tc, _, rfl, SqL.of (s5 _ _ etc), List.length_pos_iff.mpr hM, fun m2 hm2 hle3 => ?_⟩
        rw [minOf_uniq hk hm2 hle3]
        refine ⟨_, rfl, ?_⟩
        rw [← ep]
        refine T.hw_here hg5 k ?_
        have s6 := stp_putP hg5 (G' := { Gi with here := k }) rfl
        have st6 := st5.trans s6
        have tb6 := st6.fr.tabs tb
        have hg6 := s6.at_
        clear s6
        generalize upd (upd H4 e (.lst [])) Gi.p (.ins (cH K) Gi.dx (houseFs { Gi with here := k })) = H6 at st6 tb6 hg6 ⊢
        obtain ⟨G6, eG6⟩ : ∃ G6, G6 = { Gi with here := k } := ⟨_, rfl⟩
        have e6 : G6.er = { Gi.er with here := k } := by rw [eG6]; rfl
        have p6 : G6.p = Gi.p := by rw [eG6]
        have c6 : G6.cnt = Gi.cnt := by rw [eG6]
        rw [← eG6] at st6 hg6
        rw [← p6]
        have ok6 : HouseOk G6.er := by rw [e6]; exact oki.here k
        dsimp only
        refine frS (K := K) ?_
        refine ⟨_, rfl, T.hr_counting hg6 ⟨_, cntD G6.cnt, LeaseG, (fun l => N' l.num), (fun l => V.ref l.a), G6.cnt, rfl, hg6.cd, by unfold cntD; rw [List.map_map]; rfl, ?_, ?_, ?_, tb6, fun H7 eN tb7 => ⟨?_, ?_⟩⟩⟩
        · intro d hd d' hd'
          obtain ⟨_, _, rfl⟩ := List.mem_map.mp hd
          obtain ⟨_, _, rfl⟩ := List.mem_map.mp hd'
          rfl
        · refine .inr fun d hd => ?_
          obtain ⟨_, _, rfl⟩ := List.mem_map.mp hd
          exact ⟨(fun z => nomatch z), (fun _ z => nomatch z)⟩
        · intro b hb
          simp [PyData.depth]
        · intro l hl' H8 s8
          have hla := ((hg6.extN eN).same s8).cnt l hl'
          exact ⟨_, rfl, T.er_number hla ⟨Same.rfl', .int _⟩⟩
        · intro p H8 s8 hp
          have hg8 := (hg6.extN eN).same s8
          have st8 : Stp K H G (upd H8 p (.lst (refs (·.a) (sortC G6.cnt)))) G6 := by
            refine st6.trans ⟨hg8.same (same_new hp), ⟨fun b o eb nt na => ⟨same_new hp _ _ (s8 _ _ (eN _ _ eb nt)), na⟩, fun _ => ?_⟩, rfl, fun i g h => ⟨g, h, rfl⟩⟩
            exact (FrH.same (T := TT K) (G := G6) (G' := G6) (Same.trans' s8 (same_new (o := .lst (refs (·.a) (sortC G6.cnt))) hp)) fun b hb => .inl hb).tabs tb7
          have hpn : p ∉ adr G6 := hg8.outN hp
          have h6 : G6.er.here = k := by rw [e6]
          refine ⟨p, rfl, ⟨_, SqL.of upd_same⟩, for_list (xs := refs (·.a) (sortC G6.cnt)) (fun i σ H' => ∃ (x : Option V) (Gj : HG), σ = [some (.ref G6.p), some (.int tick), some (.ref tc), x, none] ∧ Stp K H G H' Gj ∧ Gj.p = G6.p ∧ H' p = some (.lst (refs (·.a) (sortC G6.cnt))) ∧ p ∉ adr Gj ∧ HouseOk Gj.er ∧
            (∀ l ∈ (sortC G6.cnt).drop i, l ∈ Gj.cnt) ∧ Gj.here = k ∧ Gj.pause = G6.pause ∧ Gj.er = (((sortC G6.cnt).take i).map (·.toLeaseS)).foldl (overAt k) G6.er) ?_ ?_ ?_ ?_⟩
          · exact ⟨_, G6, rfl, st8, rfl, upd_same, hpn, ok6, fun l h => sortC_mem.mp (by rw [List.drop_zero] at h; exact h), h6, rfl, by simp⟩
          · rintro i σ H' _ ⟨_, _, _, _, _, e, _⟩
            exact SqL.of e
          · rintro i v σ H9 ev ⟨x9, Gj, rfl, st9, p9, eD, nD, okj, rest, hh, hpz, er⟩
            obtain ⟨l, el, rfl⟩ : ∃ l, (sortC G6.cnt)[i]? = some l ∧ V.ref l.a = v := by
              unfold refs at ev
              rw [List.getElem?_map] at ev
              cases e : (sortC G6.cnt)[i]? with
              | none => rw [e] at ev; cases ev
              | some l => rw [e] at ev; exact ⟨l, rfl, Option.some.inj ev⟩
            obtain ⟨hlt, he'⟩ := List.getElem?_eq_some_iff.mp el
            have hl1 : l ∈ Gj.cnt := rest l (by rw [List.drop_eq_getElem_cons hlt, he']; exact List.mem_cons_self)
            have hgj := st9.at_
            have hla := hgj.cnt l hl1
            have nxt : (((sortC G6.cnt).take (i + 1)).map (·.toLeaseS)).foldl (overAt k) G6.er = overAt k Gj.er l.toLeaseS := by
              rw [List.take_succ, el, List.map_append, List.foldl_append, ← er]
              rfl
            have rest2 : ∀ o ∈ (sortC G6.cnt).drop (i + 1), o ∈ Gj.cnt := fun o ho => rest o (by
              rw [List.drop_eq_getElem_cons hlt]
              exact List.mem_cons_of_mem _ ho)
            rw [← p9]
            refine ⟨_, rfl, T.er_until hla ⟨_, rfl, T.hr_here hgj ⟨rfl, _, rfl, ?_⟩⟩⟩
            rw [hh]
            by_cases hu : l.til = k
            · have eo : overAt k Gj.er l.toLeaseS = Gj.er.failOne l.toLeaseS := by unfold overAt; rw [if_pos (show l.toLeaseS.til = k from hu)]
              obtain ⟨g, r, eg, _, hs, er', htr⟩ := lease_job okj hl1
              refine dT (by rw [hu]) ⟨_, rfl, hm hgj (by kernel_rfl) ⟨_, rfl, closed_ok hgj hl1 eg hs okj.rows okj.nums er' fun H10 G10 s10 e10 _ _ ej10 ec10 => ?_⟩⟩
              have hg10 := s10.at_
              have eg10 : G10.jobs[l.work]? = some g := by rw [ej10]; exact eg
              have hj10 := hg10.jobs g (job_mem eg10)
              have h10 : G10.here = k := by
                show G10.er.here = k
                rw [e10, closed_rest]
                exact hh
              have hp10 : G10.pause = G6.pause := by
                show G10.er.pause = _
                rw [e10, closed_rest]
                exact hpz
              refine jm hj10 (by kernel_rfl) ?_
              rw [← s10.p]
              refine ⟨_, rfl, T.hr_here hg10 ⟨_, rfl, T.hr_pause hg10 (failed_ok hj10 (by rw [hp10]; exact ok6.pause) htr ?_)⟩⟩
              have s11 := stp_setJ hg10 eg10 (j := g.stepFailed G10.here G10.pause) (stepFailed_steps _ _ _).1 (stepFailed_steps _ _ _).2
              have k10 := s10.fr.keep p _ eD (fun _ z => nomatch z) nD
              have k11 := s11.fr.keep p _ k10.1 (fun _ z => nomatch z) k10.2
              have e11 : HG.er { G10 with jobs := G10.jobs.set l.work (g.W (g.stepFailed G10.here G10.pause)) } = Gj.er.failOne l.toLeaseS := by
                rw [er_setJ (f := fun j => j.stepFailed G10.here G10.pause) eg10 rfl, e10, h10, hp10, ← hh, ← hpz]
                rfl
              refine ⟨_, { G10 with jobs := G10.jobs.set l.work (g.W (g.stepFailed G10.here G10.pause)) }, rfl, st9.trans (s10.trans s11), rfl, k11.1, k11.2, ?_, fun o ho => ?_, h10, hp10, ?_⟩
              · rw [e11]
                exact okj.failOne (List.mem_map.mpr ⟨l, hl1, rfl⟩)
              · show o ∈ G10.cnt
                rw [ec10]
                refine List.mem_filter.mpr ⟨rest2 o ho, ?_⟩
                have n0 : (((sortC G6.cnt).map (·.toLeaseS)).map (·.num)).Nodup := by rw [sortC_er]; exact byNum_nodup ok6
                rw [List.map_map] at n0
                have n1 : (((sortC G6.cnt).drop i).map (fun l : LeaseG => l.num)).Nodup := n0.sublist ((List.drop_sublist _ _).map _)
                rw [List.drop_eq_getElem_cons hlt, he', List.map_cons, List.nodup_cons] at n1
                have : o.num ≠ l.num := fun z => n1.1 (by rw [← z]; exact List.mem_map_of_mem ho)
                simpa using this
              · rw [e11, nxt, eo]
            · have eo : overAt k Gj.er l.toLeaseS = Gj.er := by unfold overAt; rw [if_neg (show ¬ l.toLeaseS.til = k from hu)]
              exact dF (by simpa using hu) ⟨_, Gj, rfl, st9, rfl, eD, nD, okj, rest2, hh, hpz, by rw [nxt, eo]⟩
          · rintro σ H9 ⟨x9, Gj, rfl, st9, p9, eD, nD, okj, rest, hh, hpz, er⟩
            rw [show (refs (·.a) (sortC G6.cnt)).length = (sortC G6.cnt).length by simp [refs], List.take_length, sortC_er] at er
            have hgj := st9.at_
            have hpot := okj.pot
            rw [er_len, er_clks_len] at hpot
            have szj : Gj.jobs.length + Gj.clks.length < 1000000 := by omega
            rw [← p9]
            refine ⟨_, rfl, hm hgj (by kernel_rfl) ⟨_, rfl, T.hr_here hgj (strike_ok hgj szj fun H12 G12 s12 e12 => ?_)⟩⟩
            have hg12 := s12.at_
            rw [← s12.p]
            have ok12 : HouseOk G12.er := by rw [e12]; exact okj.strike _
            refine ⟨_, rfl, hm hg12 (by kernel_rfl) (ticks_ok hg12 (sz _ ok12) fun H13 t13 n13 s13 e13 => ?_)⟩
            refine ⟨G12, t13, x9, rfl, st9.trans (s12.trans (Stp.same hg12 s13)), rfl, ?_, e13⟩
            rw [e12, hh, er, e6]
            rfl
    · refine dF hle2 ?_
      refine ⟨_, rfl, _, rfl, ?_⟩
      rw [← ep]
      refine T.hw_here hg5 tick ?_
      refine endq _ st5 fun t z => ?_
      rw [hk] at z
      rw [← Option.some.inj z]
      exact hle2
end LH
end

section
set_option Elab.async false
set_option linter.all false
set_option maxRecDepth 100000
set_option maxHeartbeats 4000000
set_option pp.maxSteps 1500
namespace LH
open PySem PySem.Spec PyProof.Rows L2 StX LamX
variable {P : Program} {w : World} {K : PySem.W.Frag} {mg : Str → Option Value} {base : Heap}
def planRow (r : PlanG) : RowS := ⟨r.kind, r.most, r.rate, 0, []⟩
theorem put_row {l : List RowG} {x : Str} {v : V} (h : ∀ r ∈ l, r.kind ≠ x) : putK (rowsD l) (Sum.inr x) v = rowsD l ++ [(Sum.inr x, v)] := by
  unfold putK
  rw [if_neg]
  unfold rowsD
  rw [List.any_map, List.any_eq_true]
  rintro ⟨o, ho, e⟩
  exact h o ho (by simpa using e)
/-- all that stood stands, but one place -/
def SameX (x : Addr) (H H' : Hp) : Prop := ∀ b o, b ≠ x → H b = some o → H' b = some o
theorem SameX.tup {x : Addr} {H H' : Hp} {C dx : Addr} {fs : List (Str × V)} (hx : H x = some (.ins C dx fs)) (s : SameX x H H') : KeepT K H H' :=
  KeepT.mk2 (fun b xs e => s b _ (fun z => by rw [z, hx] at e; cases e) e) fun b o xs e => s b _ (fun z => by rw [z, hx] at e; cases e) e
theorem m1a {l : List RowG} {r : RowG} (h : r ∈ l) : r.a ∈ pa1 l := List.mem_flatMap.mpr ⟨r, h, by simp⟩
theorem m1k {l : List RowG} {r : RowG} (h : r ∈ l) : r.tk ∈ pa1 l := List.mem_flatMap.mpr ⟨r, h, by simp⟩
theorem pa1_app (l m : List RowG) : pa1 (l ++ m) = pa1 l ++ pa1 m := by unfold pa1; rw [List.flatMap_append]
structure NewRows (H H' : Hp) (D : Addr) (l : List PlanG) (rows : List RowG) : Prop where
  er : rows.map (·.toRowS) = l.map planRow
  fresh : ∀ a ∈ D :: pa1 rows, H a = none
  nd : (D :: pa1 rows).Nodup
  at_ : ∀ r ∈ rows, RowAt H' r
theorem NewRows.keep {H H1 H2 : Hp} {D : Addr} {l : List PlanG} {rows : List RowG} (n : NewRows H H1 D l rows) (k : ∀ b ∈ pa1 rows, H2 b = H1 b) : NewRows H H2 D l rows :=
  ⟨n.er, n.fresh, n.nd, fun r hr => ⟨(k _ (m1a hr)).trans (n.at_ r hr).ob, (k _ (m1k hr)).trans (n.at_ r hr).tk⟩⟩
@[irreducible] def sp_Limits___init__ (K : PySem.W.Frag) : Sp := fun vs H Q E => ∃ (x dx t : Addr) (l : List PlanG), vs = [.ref x, .ref t] ∧ H x = some (.ins (cM K) dx []) ∧ PlanAt K H t l ∧ (l.map (·.kind)).Nodup ∧ l.length ≤ 6 ∧
  ∀ H' D rows, SameX x H H' → H' x = some (.ins (cM K) dx [("rows", .ref D)]) → H' D = some (.dK (rowsD rows)) → NewRows H H' D l rows → Q .non H'
theorem sc_Limits___init__ : FnScope ["self", "plan", "name", "most", "rate"] ["self", "plan"] (defScope s_Limits___init__) := ⟨rfl, rfl, rfl, by decide +kernel, rfl, by decide +kernel, by decide +kernel⟩
theorem Tp.ok_Limits___init__ (T : Tp P w K mg base) : FnR P w K mg base (L2.CX P w) (0 + 1) (He.ma K (He.ga K "Limits") "__init__") (sp_Limits___init__ K) := by
  refine fnr (N := ["self", "plan", "name", "most", "rate"]) (ps := ["self", "plan"]) (k := 0) T.fd_Limits___init__ sc_Limits___init__ (fun _ _ _ _ _ _ us hl => match us, hl with | [_, _], _ => rfl) (fun vs H Q E h => ?_) fun cdv A outer s H vs Q E hr h => ?_
  · unfold sp_Limits___init__ at h
    obtain ⟨_, _, _, _, rfl, _⟩ := h
    rfl
  unfold sp_Limits___init__ at h
  obtain ⟨x, dx, t, l, rfl, hx, hp, nd, hl, q⟩ := h
  refine ⟨_, (pss_one (ps_fld (pv 0) (pe_dc (own := [("name", 2), ("most", 3), ("rate", 4)]) rfl sc_Limits___init__.nd (pi_tup (pv 1)) (blkOk_by (own := [("name", 2), ("most", 3), ("rate", 4)]) (N := ["self", "plan", "name", "most", "rate"]) (sc := defScope s_Limits___init__) (by decide +kernel)) (fun _ _ _ _ _ => pg_tupK K rfl 3 rfl (pgs_cons (pg_name (i := 2) sc_Limits___init__.nd rfl (by first | exact .inl rfl | exact .inr rfl)) (pgs_cons (pg_name (i := 3) sc_Limits___init__.nd rfl (by first | exact .inl rfl | exact .inr rfl)) (pgs_cons (pg_name (i := 4) sc_Limits___init__.nd rfl (by first | exact .inl rfl | exact .inr rfl)) pgs_nil)))) (fun _ _ _ _ _ => pts_nil) (fun _ _ _ _ _ => (pv 2)) (fun _ _ _ _ _ => (pe_lst (pa_cons (pv 3) (pa_cons (pv 4) (pa_cons pe_int (pa_cons (pe_lst pa_nil) pa_nil))))))) rfl)), ?_⟩
  refine ⟨_, rfl, t, rfl, ⟨_, hp.1⟩, fun D hD => dc_tup (K := K) (xs := refs (·.a) l) (fun i H' => Same H H' ∧ ∃ rows, H' D = some (.dK (rowsD rows)) ∧ NewRows H H' D (l.take i) rows) ⟨same_new hD, [], upd_same, ?_⟩ (fun i H' _ p => KeepT.same p.1 _ _ hp.1) ?_ ?_⟩
  · exact ⟨rfl, fun a ha => by rw [List.mem_singleton.mp ha]; exact hD, by show [D].Nodup; simp, fun r hr => by cases hr⟩
  · rintro i v H1 ev ⟨s1, rows, eD, nr⟩
    obtain ⟨r, er, rfl⟩ : ∃ r, l[i]? = some r ∧ V.ref r.a = v := by
      unfold refs at ev
      rw [List.getElem?_map] at ev
      cases e : l[i]? with
      | none => rw [e] at ev; cases ev
      | some r => rw [e] at ev; exact ⟨r, rfl, Option.some.inj ev⟩
    have hr1 := hp.2 r (List.mem_of_getElem? er)
    refine ⟨r.a, _, rfl, KeepT.same s1 _ _ hr1, rfl, _, _, rfl, _, _, rfl, _, _, rfl, rfl, rfl, ?_⟩
    refine ⟨_, rfl, _, rfl, _, rfl, by show 0 ≤ sizeLine; decide, fun tk htk => ⟨by show 4 ≤ sizeLine; decide, fun a ha => ?_⟩⟩
    have s2 := Same.trans' s1 (Same.trans' (same_new (o := .lst []) htk) (same_new (o := .lst [.int r.most, .int r.rate, .int 0, .ref tk]) ha))
    have hne : tk ≠ a := fun z => by rw [z, upd_same] at ha; cases ha
    have n1 : H1 a = none := none_same (same_new htk) ha
    have n0 : H a = none := none_same s1 n1
    have n0t : H tk = none := none_same s1 htk
    have hold : ∀ b ∈ D :: pa1 rows, H1 b ≠ none := fun b hb => by
      rcases List.mem_cons.mp hb with z | z
      · rw [z, eD]
        simp
      · unfold pa1 at z
        obtain ⟨q, hq, z⟩ := List.mem_flatMap.mp z
        have := nr.at_ q hq
        simp only [List.mem_cons, List.not_mem_nil, or_false] at z
        rcases z with z | z
        · rw [z, this.ob]
          simp
        · rw [z, this.tk]
          simp
    have eD2 : upd (upd H1 tk (.lst [])) a (.lst [.int r.most, .int r.rate, .int 0, .ref tk]) D = some (.dK (rowsD rows)) := by
      rw [upd_ne, upd_ne]
      · exact eD
      · exact fun z => hold D List.mem_cons_self (by rw [z]; exact htk)
      · exact fun z => hold D List.mem_cons_self (by rw [z]; exact n1)
    have hkn : ∀ q ∈ rows, q.kind ≠ r.kind := fun q hq e => by
      have h1 : q.kind ∈ (l.take i).map (·.kind) := by
        have : q.toRowS ∈ (l.take i).map planRow := by rw [← nr.er]; exact List.mem_map_of_mem hq
        obtain ⟨p, hp', ep⟩ := List.mem_map.mp this
        refine List.mem_map.mpr ⟨p, hp', ?_⟩
        have := congrArg RowS.kind ep
        exact this
      obtain ⟨hlt, he⟩ := List.getElem?_eq_some_iff.mp er
      have h2 : l.map (·.kind) = (l.take i).map (·.kind) ++ r.kind :: (l.drop (i + 1)).map (·.kind) := by
        rw [← he, ← List.map_cons (f := fun p : PlanG => p.kind), ← List.drop_eq_getElem_cons hlt, ← List.map_append, List.take_append_drop]
      rw [h2, List.nodup_append] at nd
      exact nd.2.2 _ h1 _ List.mem_cons_self e
    have lr : rows.length ≤ 6 := by
      have := congrArg List.length nr.er
      simp only [List.length_map, List.length_take] at this
      omega
    have hz6 : (6 : Nat) < sizeLine := by decide
    refine ⟨rowsD rows, Sum.inr r.kind, rfl, eD2, by simp only [rowsD, List.length_map]; omega, ?_, rows ++ [⟨planRow r, a, tk⟩], ?_, ?_, ?_, ?_, ?_⟩
    · exact Same.put s2 hD
    · rw [upd_same, put_row hkn]
      simp [rowsD, planRow]
    · rw [List.take_succ, er, List.map_append, nr.er]
      simp
    · intro b hb
      rcases List.mem_cons.mp hb with z | z
      · exact nr.fresh b (by rw [z]; exact List.mem_cons_self)
      · rw [pa1_app] at z
        rcases List.mem_append.mp z with z | z
        · exact nr.fresh b (List.mem_cons_of_mem _ z)
        · have : b = a ∨ b = tk := by simpa [pa1] using z
          rcases this with z | z
          · rw [z]; exact n0
          · rw [z]; exact n0t
    · have e2 : D :: pa1 (rows ++ [⟨planRow r, a, tk⟩]) = (D :: pa1 rows) ++ [a, tk] := by rw [pa1_app]; simp [pa1]
      rw [e2, List.nodup_append]
      refine ⟨nr.nd, by simp [Ne.symm hne], fun b hb c hc e => ?_⟩
      have : c = a ∨ c = tk := by simpa using hc
      rcases this with z | z
      · exact hold b hb (by rw [e, z]; exact n1)
      · exact hold b hb (by rw [e, z]; exact htk)
    · intro q hq
      have hD' : ∀ b ∈ pa1 rows, b ≠ D := fun b hb z => by
        have := nr.nd
        rw [List.nodup_cons] at this
        exact this.1 (by rw [← z]; exact hb)
      have aD : a ≠ D := fun z => hold D List.mem_cons_self (by rw [← z]; exact n1)
      have tD : tk ≠ D := fun z => hold D List.mem_cons_self (by rw [← z]; exact htk)
      rcases List.mem_append.mp hq with z | z
      · have old : ∀ b ∈ pa1 rows, upd (upd (upd H1 tk (.lst [])) a (.lst [.int r.most, .int r.rate, .int 0, .ref tk])) D (.dK (putK (rowsD rows) (Sum.inr r.kind) (.ref a))) b = H1 b := fun b hb => by
          have h1 := hold b (List.mem_cons_of_mem _ hb)
          rw [upd_ne (hD' b hb), upd_ne, upd_ne]
          · exact fun z => h1 (by rw [z]; exact htk)
          · exact fun z => h1 (by rw [z]; exact n1)
        exact ⟨(old _ (m1a z)).trans (nr.at_ q z).ob, (old _ (m1k z)).trans (nr.at_ q z).tk⟩
      · rw [List.mem_singleton.mp z]
        refine ⟨?_, ?_⟩
        · show upd _ D _ a = _
          rw [upd_ne aD, upd_same]
          rfl
        · show upd _ D _ tk = _
          rw [upd_ne tD, upd_ne hne, upd_same]
          rfl
  · rintro H1 ⟨s1, rows, eD, nr⟩
    refine ⟨_, rfl, w0 (s1 _ _ hx) T.c_Limits T.n_Limits_rows (Nat.le_of_ble_eq_true (by kernel_rfl)) ?_⟩
    have hl2 : l.take (refs (·.a) l).length = l := by simp [refs]
    rw [hl2] at nr
    have xD : ∀ b ∈ D :: pa1 rows, b ≠ x := fun b hb z => by
      have := nr.fresh b hb
      rw [z, hx] at this
      cases this
    refine q _ D rows (fun b o hb e => (upd_ne hb).trans (s1 _ _ e)) upd_same ((upd_ne (xD D List.mem_cons_self)).trans eD) (nr.keep fun b hb => upd_ne (xD b (List.mem_cons_of_mem _ hb)))
theorem newLimits_ok {x dx t : Addr} {l : List PlanG} {H : Hp} {Q : VK} {E : XK} (hx : H x = some (.ins (cM K) dx [])) (hp : PlanAt K H t l) (nd : (l.map (·.kind)).Nodup) (hl : l.length ≤ 6)
    (q : ∀ H' D rows, SameX x H H' → H' x = some (.ins (cM K) dx [("rows", .ref D)]) → H' D = some (.dK (rowsD rows)) → NewRows H H' D l rows → Q .non H') : sp_Limits___init__ K [.ref x, .ref t] H Q E := by
  unfold sp_Limits___init__
  exact ⟨x, dx, t, l, rfl, hx, hp, nd, hl, q⟩
end LH
end

section
set_option Elab.async false
set_option linter.all false
set_option maxRecDepth 100000
set_option maxHeartbeats 4000000
set_option pp.maxSteps 1500
namespace LH
open PySem PySem.Spec PyProof.Rows L2 StX LamX
variable {P : Program} {w : World} {K : PySem.W.Frag} {mg : Str → Option Value} {base : Heap}
/-- new objects beside one that is filled -/
structure Kn (x : Addr) (H H' : Hp) (l : List (Addr × HO)) : Prop where
  same : SameX x H H'
  at_ : ∀ p ∈ l, H' p.1 = some p.2
  nd : (l.map (·.1)).Nodup
  fresh : ∀ p ∈ l, H p.1 = none
theorem Kn.new {x : Addr} {H H' : Hp} {l : List (Addr × HO)} {a : Addr} {o : HO} (k : Kn x H H' l) (hx : H' x ≠ none) (ha : H' a = none) : Kn x H (upd H' a o) ((a, o) :: l) := by
  have ne : ∀ p ∈ l, p.1 ≠ a := fun p hp z => by
    have := k.at_ p hp
    rw [z, ha] at this
    cases this
  have ax : a ≠ x := fun z => hx (by rw [← z]; exact ha)
  have hn : H a = none := by
    cases e : H a with
    | none => rfl
    | some u =>
      have := k.same a u ax e
      rw [ha] at this
      cases this
  refine ⟨fun b u hb e => ?_, fun p hp => ?_, ?_, fun p hp => ?_⟩
  · rw [upd_ne fun z => by rw [z, hn] at e; cases e]
    exact k.same b u hb e
  · rcases List.mem_cons.mp hp with z | z
    · rw [z, upd_same]
    · rw [upd_ne (ne p z)]
      exact k.at_ p z
  · rw [List.map_cons, List.nodup_cons]
    refine ⟨fun m => ?_, k.nd⟩
    obtain ⟨p, hp, e⟩ := List.mem_map.mp m
    exact ne p hp e
  · rcases List.mem_cons.mp hp with z | z
    · rw [z]
      exact hn
    · exact k.fresh p z
theorem Kn.putx {x : Addr} {H H' : Hp} {l : List (Addr × HO)} {o : HO} (k : Kn x H H' l) (hx : H x ≠ none) : Kn x H (upd H' x o) l :=
  ⟨fun b u hb e => (upd_ne hb).trans (k.same b u hb e), fun p hp => (upd_ne fun z => hx (by rw [← z]; exact k.fresh p hp)).trans (k.at_ p hp), k.nd, k.fresh⟩
theorem Kn.at1 {x : Addr} {H H' : Hp} {l : List (Addr × HO)} {p : Addr × HO} (k : Kn x H H' (p :: l)) : H' p.1 = some p.2 := k.at_ p List.mem_cons_self
def rowsK (l : List RowG) : List (Addr × HO) := l.flatMap fun r => [(r.a, .lst (rowL r)), (r.tk, .lst (vints r.ticks))]
theorem rowsK_fst (l : List RowG) : (rowsK l).map (·.1) = pa1 l := by
  unfold rowsK pa1
  rw [List.map_flatMap]
  rfl
theorem rowsK_at {H : Hp} {l : List RowG} (h : ∀ r ∈ l, RowAt H r) : ∀ p ∈ rowsK l, H p.1 = some p.2 := fun p hp => by
  obtain ⟨r, hr, z⟩ := List.mem_flatMap.mp hp
  simp only [List.mem_cons, List.not_mem_nil, or_false] at z
  rcases z with z | z
  · rw [z]; exact (h r hr).ob
  · rw [z]; exact (h r hr).tk
/-- a Limits with its rows is new -/
theorem Kn.limits {x : Addr} {H H1 H2 : Hp} {y dy D : Addr} {l : List PlanG} {rows : List RowG} {o : HO} (k : Kn x H H1 []) (hx : H1 x ≠ none) (hy : H1 y = none) (hdy : H1 dy = none) (hne : dy ≠ y)
    (s : SameX y (upd (upd H1 dy (.own y)) y (.ins (cM K) dy [])) H2) (ey : H2 y = some o) (eD : H2 D = some (.dK (rowsD rows))) (n : NewRows (upd (upd H1 dy (.own y)) y (.ins (cM K) dy [])) H2 D l rows) : Kn x H H2 ((y, o) :: (D, .dK (rowsD rows)) :: rowsK rows) := by
  have back : ∀ b, H1 b = none → H b = none := fun b hb => by
    cases e : H b with
    | none => rfl
    | some u =>
      have := k.same b u (fun z => hx (by rw [← z]; exact hb)) e
      rw [hb] at this
      cases this
  have back2 : ∀ b, upd (upd H1 dy (.own y)) y (.ins (cM K) dy []) b = none → b ≠ y ∧ b ≠ dy ∧ H1 b = none := fun b hb => by
    have b1 : b ≠ y := fun z => by rw [z, upd_same] at hb; cases hb
    rw [upd_ne b1] at hb
    have b2 : b ≠ dy := fun z => by rw [z, upd_same] at hb; cases hb
    rw [upd_ne b2] at hb
    exact ⟨b1, b2, hb⟩
  have e1 : ((D, HO.dK (rowsD rows)) :: rowsK rows).map (·.1) = D :: pa1 rows := by rw [List.map_cons, rowsK_fst]
  refine ⟨fun b u hb e => ?_, fun p hp => ?_, ?_, fun p hp => ?_⟩
  · have b1 : b ≠ y := fun z => by
      rw [z] at e
      rw [back y hy] at e
      cases e
    refine s b u b1 ?_
    rw [upd_ne b1, upd_ne]
    · exact k.same b u hb e
    · intro z
      rw [z, back dy hdy] at e
      cases e
  · rcases List.mem_cons.mp hp with z | z
    · rw [z]; exact ey
    · rcases List.mem_cons.mp z with z | z
      · rw [z]; exact eD
      · exact rowsK_at n.at_ p z
  · rw [List.map_cons, e1, List.nodup_cons]
    exact ⟨fun m => (back2 _ (n.fresh _ m)).1 rfl, n.nd⟩
  · rcases List.mem_cons.mp hp with z | z
    · rw [z]; exact back y hy
    · have : p.1 ∈ D :: pa1 rows := by rw [← e1]; exact List.mem_map_of_mem z
      exact back _ (back2 _ (n.fresh _ this)).2.2
def planD (r : PlanG) : PyData := .tuple [.str r.kind, .int r.most, .int r.rate]
theorem plan_dt {H : Hp} {t : Addr} {l : List PlanG} (h : PlanAt K H t l) : Dt K H (.ref t) (.tuple (l.map planD)) :=
  .tup h.1 (dts_of (v := fun r : PlanG => V.ref r.a) (enc := planD) fun r hr => .tup (h.2 r hr) (.cons (.str _) (.cons (.int _) (.cons (.int _) .nil))))
theorem plan_shaped {l : List PlanG} (h : PlanOk l) : SeqAt.shaped (.tuple (l.map planD)) = true := by
  have h1 : ∀ m : List PlanG, (∀ r ∈ m, isName r.kind = true) → PyData.canLayAll0 (m.map planD) = true := fun m => by
    induction m with
    | nil => intro _; rfl
    | cons a m ih =>
      intro hm
      rw [List.map_cons]
      unfold PyData.canLayAll0
      rw [ih fun r hr => hm r (List.mem_cons_of_mem _ hr), Bool.and_true]
      have := name_strOk (hm a List.mem_cons_self)
      simp only [planD, PyData.canLay0, PyData.canLayAll0, this, Bool.and_true]
  have h2 : ∀ m : List PlanG, PyData.depthAll (m.map planD) ≤ 2 := fun m => by
    induction m with
    | nil => simp [PyData.depthAll]
    | cons a m ih =>
      simp only [List.map_cons, PyData.depthAll, planD, PyData.depth]
      omega
  unfold SeqAt.shaped
  have h3 : PyData.canLay0 (.tuple (l.map planD)) = true := by unfold PyData.canLay0; exact h1 l fun r hr => (h.row r hr).1
  rw [h3, Bool.true_and, decide_eq_true_eq]
  have := h2 l
  simp only [PyData.depth]
  omega
theorem plan_ok {t : Addr} {l : List PlanG} {H : Hp} {Q : VK} {E : XK} (h : PlanAt K H t l) (ok : PlanOk l) (q : ∀ H', Same H H' → Q .non H') : sp_need_plan K [.ref t] H Q E := by
  unfold sp_need_plan
  refine ⟨t, l, _, rfl, plan_dt h, plan_shaped ok, ?_, h, ok, q⟩
  cases l with
  | nil => exact absurd rfl ok.ne
  | cons a l => rfl
def newHouse (l : List PlanG) (hold pause hands age : Int) : HouseS := ⟨0, hold, pause, hands, age, l.map planRow, [], 0, [], [], [], []⟩
@[irreducible] def sp_House___init__ (K : PySem.W.Frag) : Sp := fun vs H Q E => ∃ (x dx t : Addr) (l : List PlanG) (hold pause hands age : Int), vs = [.ref x, .ref t, .int hold, .int pause, .int hands, .int age] ∧ H x = some (.ins (cH K) dx []) ∧ PlanAt K H t l ∧ PlanOk l ∧ (1 ≤ hold ∧ hold ≤ 99) ∧ (1 ≤ pause ∧ pause ≤ 99) ∧ (1 ≤ hands ∧ hands ≤ 9) ∧ (0 ≤ age ∧ age ≤ 99) ∧
  ∀ H' G', HouseAt K H' G' → G'.p = x → (∀ b o, b ≠ x → H b = some o → H' b = some o ∧ b ∉ adr G') → G'.er = newHouse l hold pause hands age → Q .non H'
theorem sc_House___init__ : FnScope ["self", "plan", "hold", "pause", "hands", "age"] ["self", "plan", "hold", "pause", "hands", "age"] (defScope s_House___init__) := ⟨rfl, rfl, rfl, by decide +kernel, rfl, by decide +kernel, by decide +kernel⟩
theorem Tp.okF_House___init__ (T : Tp P w K mg base) {fd : FuncData} (F : FunD K "__init__" "House.__init__" (defArgs s_House___init__) (defBody s_House___init__) (defScope s_House___init__) (He.DefD.dvs K d_House___init__) (He.DefD.kws K d_House___init__) (He.ma K (He.ga K "House") "__init__") fd) : FnOk P w K mg base (L2.CX P w) (4 + 1) (He.ma K (He.ga K "House") "__init__") fd ["self", "plan", "hold", "pause", "hands", "age"] (sp_House___init__ K) := by
  refine FunD.ok (N := ["self", "plan", "hold", "pause", "hands", "age"]) (k := 4) F sc_House___init__ (fun vs H Q E h => ?_) fun cdv A outer s H vs Q E hr h => ?_
  · unfold sp_House___init__ at h
    obtain ⟨_, _, _, _, _, _, _, _, rfl, _⟩ := h
    rfl
  unfold sp_House___init__ at h
  obtain ⟨x, dx, t, l, hold, pause, hands, age, rfl, hx, hp, ok, h1, h2, h3, h4, q⟩ := h
  refine ⟨_, (pss_cons (ps_expr (pe_callP T.ok_need_plan (rm hr) (kp_of T.fd_need_plan) rfl T.g_need_plan passE (pa_cons (pv 1) pa_nil)))
      (pss_cons (ps_expr (pe_callP T.ok_need_count (rm hr) (kp_of T.fd_need_count) rfl T.g_need_count passE (pa_cons (pv 2) (pa_cons pe_int (pa_cons (pe_gi rfl T.v_MOST_HOLD) pa_nil)))))
      (pss_cons (ps_expr (pe_callP T.ok_need_count (rm hr) (kp_of T.fd_need_count) rfl T.g_need_count passE (pa_cons (pv 3) (pa_cons pe_int (pa_cons (pe_gi rfl T.v_MOST_HOLD) pa_nil)))))
      (pss_cons (ps_expr (pe_callP T.ok_need_count (rm hr) (kp_of T.fd_need_count) rfl T.g_need_count passE (pa_cons (pv 4) (pa_cons pe_int (pa_cons (pe_gi rfl T.v_MOST_HANDS) pa_nil)))))
      (pss_cons (ps_expr (pe_callP T.ok_need_count (rm hr) (kp_of T.fd_need_count) rfl T.g_need_count passE (pa_cons (pv 5) (pa_cons pe_int (pa_cons (pe_gi rfl T.v_MOST_HOLD) pa_nil)))))
      (pss_cons (ps_fld (pv 0) pe_int rfl)
      (pss_cons (ps_asg (pe_tup (pa_cons (pv 2) (pa_cons (pv 3) (pa_cons (pv 4) (pa_cons (pv 5) pa_nil))))) (pg_tup rfl (pgs_cons (pg_fldT (pv 0)) (pgs_cons (pg_fldT (pv 0)) (pgs_cons (pg_fldT (pv 0)) (pgs_cons (pg_fldT (pv 0)) pgs_nil))))))
      (pss_cons (ps_fld (pv 0) (pe_makeR T.mk_Limits T.ok_Limits___init__ (rm hr) rfl T.g_Limits passE (pa_cons (pv 1) pa_nil)) rfl)
      (pss_cons (ps_fld (pv 0) (pe_lst pa_nil) rfl)
      (pss_cons (ps_fld (pv 0) pe_int rfl)
      (pss_cons (ps_fld (pv 0) pe_dnewK rfl)
      (pss_cons (ps_fld (pv 0) pe_dnewK rfl)
      (pss_cons (ps_fld (pv 0) (pe_lst pa_nil) rfl)
      (pss_one (ps_fld (pv 0) (pe_lst pa_nil) rfl))))))))))))))), ?_⟩
  refine ⟨_, rfl, plan_ok hp ok fun H1 s1 => ?_⟩
  have hx1 := s1 _ _ hx
  have k1 : Kn x H H1 [] := ⟨fun b o _ e => s1 b o e, (fun p hp => nomatch hp), List.nodup_nil, (fun p hp => nomatch hp)⟩
  have hx0 : H x ≠ none := by rw [hx]; simp
  refine ⟨_, rfl, count_ok h1 ⟨_, rfl, count_ok h2 ⟨_, rfl, count_ok h3 ⟨_, rfl, count_ok h4 ?_⟩⟩⟩⟩
  refine ⟨_, rfl, w0 hx1 T.c_House T.n_House_here (Nat.le_of_ble_eq_true (by kernel_rfl)) ?_⟩
  refine ⟨_, rfl, _, rfl, _, rfl, _, rfl, by show 4 ≤ sizeLine; decide, fun u hu => ?_⟩
  have k2 := (k1.putx (o := .ins (cH K) dx (putF ("here" : Str) (V.int 0) [])) hx0).new (o := .tup [.int hold, .int pause, .int hands, .int age]) (by rw [upd_same]; simp) hu
  have x2 : upd (upd H1 x (.ins (cH K) dx (putF ("here" : Str) (V.int 0) []))) u (.tup [.int hold, .int pause, .int hands, .int age]) x = some (.ins (cH K) dx (putF ("here" : Str) (V.int 0) [])) := (upd_ne fun z => by rw [← z, upd_same] at hu; cases hu).trans upd_same
  have t2 := k2.at1
  generalize upd (upd H1 x (.ins (cH K) dx (putF ("here" : Str) (V.int 0) []))) u (.tup [.int hold, .int pause, .int hands, .int age]) = H2 at k2 x2 t2 ⊢
  refine ⟨u, _, rfl, SqT.of t2, rfl, _, _, rfl, ?_⟩
  refine ⟨_, rfl, _, _, _, _, rfl, x2, T.c_House, T.n_House_hold, Nat.le_of_ble_eq_true (by kernel_rfl), _, _, rfl, ?_⟩
  refine ⟨_, rfl, _, _, _, _, rfl, upd_same, T.c_House, T.n_House_pause, Nat.le_of_ble_eq_true (by kernel_rfl), _, _, rfl, ?_⟩
  refine ⟨_, rfl, _, _, _, _, rfl, upd_same, T.c_House, T.n_House_hands, Nat.le_of_ble_eq_true (by kernel_rfl), _, _, rfl, ?_⟩
  refine ⟨_, rfl, _, _, _, _, rfl, upd_same, T.c_House, T.n_House_age, Nat.le_of_ble_eq_true (by kernel_rfl), rfl, ?_⟩
  simp only [upd_upd]
  have k3 : Kn x H _ [] := ⟨(k2.putx (o := .ins (cH K) dx (putF ("age" : Str) (V.int age) (putF ("hands" : Str) (V.int hands) (putF ("pause" : Str) (V.int pause) (putF ("hold" : Str) (V.int hold) (putF ("here" : Str) (V.int 0) [])))))) hx0).same, (fun p hp => nomatch hp), List.nodup_nil, (fun p hp => nomatch hp)⟩
  have x3 : upd H2 x (.ins (cH K) dx (putF ("age" : Str) (V.int age) (putF ("hands" : Str) (V.int hands) (putF ("pause" : Str) (V.int pause) (putF ("hold" : Str) (V.int hold) (putF ("here" : Str) (V.int 0) [])))))) x = some (.ins (cH K) dx (putF ("age" : Str) (V.int age) (putF ("hands" : Str) (V.int hands) (putF ("pause" : Str) (V.int pause) (putF ("hold" : Str) (V.int hold) (putF ("here" : Str) (V.int 0) [])))))) := upd_same
  generalize upd H2 x (.ins (cH K) dx (putF ("age" : Str) (V.int age) (putF ("hands" : Str) (V.int hands) (putF ("pause" : Str) (V.int pause) (putF ("hold" : Str) (V.int hold) (putF ("here" : Str) (V.int 0) [])))))) = H3 at k3 x3 ⊢
  have hx3 : H3 x ≠ none := by rw [x3]; simp
  refine ⟨_, rfl, fun y dy hy hdy hne => ?_⟩
  have ky := k3.new (o := .own y) hx3 hdy
  have kp : KeepT K H (upd (upd H3 dy (.own y)) y (.ins (cM K) dy [])) := (SameX.tup hx (ky.new (o := .ins (cM K) dy []) (by rw [upd_ne]; exact hx3; exact fun z => hx3 (by rw [z]; exact hdy)) (by rw [upd_ne hne.symm]; exact hy)).same)
  refine newLimits_ok (l := l) upd_same ⟨kp _ _ hp.1, fun r hr => kp _ _ (hp.2 r hr)⟩ ok.nd ok.len fun H4 D rows s4 y4 D4 n4 => ⟨rfl, ?_⟩
  have k4 := k3.limits hx3 hy hdy hne s4 y4 D4 n4
  have x4 : H4 x = H3 x := by
    have b1 : x ≠ y := fun z => hx3 (by rw [z]; exact hy)
    have b2 : x ≠ dy := fun z => hx3 (by rw [z]; exact hdy)
    have := s4 x (.ins (cH K) dx (putF ("age" : Str) (V.int age) (putF ("hands" : Str) (V.int hands) (putF ("pause" : Str) (V.int pause) (putF ("hold" : Str) (V.int hold) (putF ("here" : Str) (V.int 0) [])))))) b1 (by rw [upd_ne b1, upd_ne b2]; exact x3)
    rw [this, x3]
  rw [x3] at x4
  refine ⟨_, rfl, w0 x4 T.c_House T.n_House_limits (Nat.le_of_ble_eq_true (by kernel_rfl)) ?_⟩
  have k5 := k4.putx (o := .ins (cH K) dx (putF ("limits" : Str) (V.ref y) (putF ("age" : Str) (V.int age) (putF ("hands" : Str) (V.int hands) (putF ("pause" : Str) (V.int pause) (putF ("hold" : Str) (V.int hold) (putF ("here" : Str) (V.int 0) []))))))) hx0
  generalize eH5 : upd H4 x (.ins (cH K) dx (putF ("limits" : Str) (V.ref y) (putF ("age" : Str) (V.int age) (putF ("hands" : Str) (V.int hands) (putF ("pause" : Str) (V.int pause) (putF ("hold" : Str) (V.int hold) (putF ("here" : Str) (V.int 0) []))))))) = H5 at k5 ⊢
  have x5 : H5 x = some (.ins (cH K) dx (putF ("limits" : Str) (V.ref y) (putF ("age" : Str) (V.int age) (putF ("hands" : Str) (V.int hands) (putF ("pause" : Str) (V.int pause) (putF ("hold" : Str) (V.int hold) (putF ("here" : Str) (V.int 0) []))))))) := by rw [← eH5, upd_same]
  clear eH5
  refine ⟨by show 0 ≤ sizeLine; decide, fun a1 ha1 => ?_⟩
  have hx5 : H5 x ≠ none := by rw [x5]; simp
  have j5 := k5.new (o := .lst []) hx5 ha1
  have y5 : upd H5 a1 (.lst []) x = some (.ins (cH K) dx (putF ("limits" : Str) (V.ref y) (putF ("age" : Str) (V.int age) (putF ("hands" : Str) (V.int hands) (putF ("pause" : Str) (V.int pause) (putF ("hold" : Str) (V.int hold) (putF ("here" : Str) (V.int 0) []))))))) := (upd_ne fun z => hx5 (by rw [z]; exact ha1)).trans x5
  refine ⟨_, rfl, w0 y5 T.c_House T.n_House_jobs (Nat.le_of_ble_eq_true (by kernel_rfl)) ?_⟩
  have k6 := j5.putx (o := .ins (cH K) dx (putF ("jobs" : Str) (V.ref a1) (putF ("limits" : Str) (V.ref y) (putF ("age" : Str) (V.int age) (putF ("hands" : Str) (V.int hands) (putF ("pause" : Str) (V.int pause) (putF ("hold" : Str) (V.int hold) (putF ("here" : Str) (V.int 0) [])))))))) hx0
  generalize eH6 : upd (upd H5 a1 (.lst [])) x (.ins (cH K) dx (putF ("jobs" : Str) (V.ref a1) (putF ("limits" : Str) (V.ref y) (putF ("age" : Str) (V.int age) (putF ("hands" : Str) (V.int hands) (putF ("pause" : Str) (V.int pause) (putF ("hold" : Str) (V.int hold) (putF ("here" : Str) (V.int 0) [])))))))) = H6 at k6 ⊢
  have x6 : H6 x = some (.ins (cH K) dx (putF ("jobs" : Str) (V.ref a1) (putF ("limits" : Str) (V.ref y) (putF ("age" : Str) (V.int age) (putF ("hands" : Str) (V.int hands) (putF ("pause" : Str) (V.int pause) (putF ("hold" : Str) (V.int hold) (putF ("here" : Str) (V.int 0) [])))))))) := by rw [← eH6, upd_same]
  clear eH6
  refine ⟨_, rfl, w0 x6 T.c_House T.n_House_given (Nat.le_of_ble_eq_true (by kernel_rfl)) ?_⟩
  have k7 := k6.putx (o := .ins (cH K) dx (putF ("given" : Str) (V.int 0) (putF ("jobs" : Str) (V.ref a1) (putF ("limits" : Str) (V.ref y) (putF ("age" : Str) (V.int age) (putF ("hands" : Str) (V.int hands) (putF ("pause" : Str) (V.int pause) (putF ("hold" : Str) (V.int hold) (putF ("here" : Str) (V.int 0) []))))))))) hx0
  generalize eH7 : upd H6 x (.ins (cH K) dx (putF ("given" : Str) (V.int 0) (putF ("jobs" : Str) (V.ref a1) (putF ("limits" : Str) (V.ref y) (putF ("age" : Str) (V.int age) (putF ("hands" : Str) (V.int hands) (putF ("pause" : Str) (V.int pause) (putF ("hold" : Str) (V.int hold) (putF ("here" : Str) (V.int 0) []))))))))) = H7 at k7 ⊢
  have x7 : H7 x = some (.ins (cH K) dx (putF ("given" : Str) (V.int 0) (putF ("jobs" : Str) (V.ref a1) (putF ("limits" : Str) (V.ref y) (putF ("age" : Str) (V.int age) (putF ("hands" : Str) (V.int hands) (putF ("pause" : Str) (V.int pause) (putF ("hold" : Str) (V.int hold) (putF ("here" : Str) (V.int 0) []))))))))) := by rw [← eH7, upd_same]
  clear eH7
  refine fun a2 ha2 => ?_
  have hx7 : H7 x ≠ none := by rw [x7]; simp
  have j7 := k7.new (o := .dK []) hx7 ha2
  have y7 : upd H7 a2 (.dK []) x = some (.ins (cH K) dx (putF ("given" : Str) (V.int 0) (putF ("jobs" : Str) (V.ref a1) (putF ("limits" : Str) (V.ref y) (putF ("age" : Str) (V.int age) (putF ("hands" : Str) (V.int hands) (putF ("pause" : Str) (V.int pause) (putF ("hold" : Str) (V.int hold) (putF ("here" : Str) (V.int 0) []))))))))) := (upd_ne fun z => hx7 (by rw [z]; exact ha2)).trans x7
  refine ⟨_, rfl, w0 y7 T.c_House T.n_House_counting (Nat.le_of_ble_eq_true (by kernel_rfl)) ?_⟩
  have k8 := j7.putx (o := .ins (cH K) dx (putF ("counting" : Str) (V.ref a2) (putF ("given" : Str) (V.int 0) (putF ("jobs" : Str) (V.ref a1) (putF ("limits" : Str) (V.ref y) (putF ("age" : Str) (V.int age) (putF ("hands" : Str) (V.int hands) (putF ("pause" : Str) (V.int pause) (putF ("hold" : Str) (V.int hold) (putF ("here" : Str) (V.int 0) [])))))))))) hx0
  generalize eH8 : upd (upd H7 a2 (.dK [])) x (.ins (cH K) dx (putF ("counting" : Str) (V.ref a2) (putF ("given" : Str) (V.int 0) (putF ("jobs" : Str) (V.ref a1) (putF ("limits" : Str) (V.ref y) (putF ("age" : Str) (V.int age) (putF ("hands" : Str) (V.int hands) (putF ("pause" : Str) (V.int pause) (putF ("hold" : Str) (V.int hold) (putF ("here" : Str) (V.int 0) [])))))))))) = H8 at k8 ⊢
  have x8 : H8 x = some (.ins (cH K) dx (putF ("counting" : Str) (V.ref a2) (putF ("given" : Str) (V.int 0) (putF ("jobs" : Str) (V.ref a1) (putF ("limits" : Str) (V.ref y) (putF ("age" : Str) (V.int age) (putF ("hands" : Str) (V.int hands) (putF ("pause" : Str) (V.int pause) (putF ("hold" : Str) (V.int hold) (putF ("here" : Str) (V.int 0) [])))))))))) := by rw [← eH8, upd_same]
  clear eH8
  refine fun a3 ha3 => ?_
  have hx8 : H8 x ≠ none := by rw [x8]; simp
  have j8 := k8.new (o := .dK []) hx8 ha3
  have y8 : upd H8 a3 (.dK []) x = some (.ins (cH K) dx (putF ("counting" : Str) (V.ref a2) (putF ("given" : Str) (V.int 0) (putF ("jobs" : Str) (V.ref a1) (putF ("limits" : Str) (V.ref y) (putF ("age" : Str) (V.int age) (putF ("hands" : Str) (V.int hands) (putF ("pause" : Str) (V.int pause) (putF ("hold" : Str) (V.int hold) (putF ("here" : Str) (V.int 0) [])))))))))) := (upd_ne fun z => hx8 (by rw [z]; exact ha3)).trans x8
  refine ⟨_, rfl, w0 y8 T.c_House T.n_House_staff (Nat.le_of_ble_eq_true (by kernel_rfl)) ?_⟩
  have k9 := j8.putx (o := .ins (cH K) dx (putF ("staff" : Str) (V.ref a3) (putF ("counting" : Str) (V.ref a2) (putF ("given" : Str) (V.int 0) (putF ("jobs" : Str) (V.ref a1) (putF ("limits" : Str) (V.ref y) (putF ("age" : Str) (V.int age) (putF ("hands" : Str) (V.int hands) (putF ("pause" : Str) (V.int pause) (putF ("hold" : Str) (V.int hold) (putF ("here" : Str) (V.int 0) []))))))))))) hx0
  generalize eH9 : upd (upd H8 a3 (.dK [])) x (.ins (cH K) dx (putF ("staff" : Str) (V.ref a3) (putF ("counting" : Str) (V.ref a2) (putF ("given" : Str) (V.int 0) (putF ("jobs" : Str) (V.ref a1) (putF ("limits" : Str) (V.ref y) (putF ("age" : Str) (V.int age) (putF ("hands" : Str) (V.int hands) (putF ("pause" : Str) (V.int pause) (putF ("hold" : Str) (V.int hold) (putF ("here" : Str) (V.int 0) []))))))))))) = H9 at k9 ⊢
  have x9 : H9 x = some (.ins (cH K) dx (putF ("staff" : Str) (V.ref a3) (putF ("counting" : Str) (V.ref a2) (putF ("given" : Str) (V.int 0) (putF ("jobs" : Str) (V.ref a1) (putF ("limits" : Str) (V.ref y) (putF ("age" : Str) (V.int age) (putF ("hands" : Str) (V.int hands) (putF ("pause" : Str) (V.int pause) (putF ("hold" : Str) (V.int hold) (putF ("here" : Str) (V.int 0) []))))))))))) := by rw [← eH9, upd_same]
  clear eH9
  refine ⟨by show 0 ≤ sizeLine; decide, fun a4 ha4 => ?_⟩
  have hx9 : H9 x ≠ none := by rw [x9]; simp
  have j9 := k9.new (o := .lst []) hx9 ha4
  have y9 : upd H9 a4 (.lst []) x = some (.ins (cH K) dx (putF ("staff" : Str) (V.ref a3) (putF ("counting" : Str) (V.ref a2) (putF ("given" : Str) (V.int 0) (putF ("jobs" : Str) (V.ref a1) (putF ("limits" : Str) (V.ref y) (putF ("age" : Str) (V.int age) (putF ("hands" : Str) (V.int hands) (putF ("pause" : Str) (V.int pause) (putF ("hold" : Str) (V.int hold) (putF ("here" : Str) (V.int 0) []))))))))))) := (upd_ne fun z => hx9 (by rw [z]; exact ha4)).trans x9
  refine ⟨_, rfl, w0 y9 T.c_House T.n_House_clocks (Nat.le_of_ble_eq_true (by kernel_rfl)) ?_⟩
  have k10 := j9.putx (o := .ins (cH K) dx (putF ("clocks" : Str) (V.ref a4) (putF ("staff" : Str) (V.ref a3) (putF ("counting" : Str) (V.ref a2) (putF ("given" : Str) (V.int 0) (putF ("jobs" : Str) (V.ref a1) (putF ("limits" : Str) (V.ref y) (putF ("age" : Str) (V.int age) (putF ("hands" : Str) (V.int hands) (putF ("pause" : Str) (V.int pause) (putF ("hold" : Str) (V.int hold) (putF ("here" : Str) (V.int 0) [])))))))))))) hx0
  generalize eH10 : upd (upd H9 a4 (.lst [])) x (.ins (cH K) dx (putF ("clocks" : Str) (V.ref a4) (putF ("staff" : Str) (V.ref a3) (putF ("counting" : Str) (V.ref a2) (putF ("given" : Str) (V.int 0) (putF ("jobs" : Str) (V.ref a1) (putF ("limits" : Str) (V.ref y) (putF ("age" : Str) (V.int age) (putF ("hands" : Str) (V.int hands) (putF ("pause" : Str) (V.int pause) (putF ("hold" : Str) (V.int hold) (putF ("here" : Str) (V.int 0) [])))))))))))) = H10 at k10 ⊢
  have x10 : H10 x = some (.ins (cH K) dx (putF ("clocks" : Str) (V.ref a4) (putF ("staff" : Str) (V.ref a3) (putF ("counting" : Str) (V.ref a2) (putF ("given" : Str) (V.int 0) (putF ("jobs" : Str) (V.ref a1) (putF ("limits" : Str) (V.ref y) (putF ("age" : Str) (V.int age) (putF ("hands" : Str) (V.int hands) (putF ("pause" : Str) (V.int pause) (putF ("hold" : Str) (V.int hold) (putF ("here" : Str) (V.int 0) [])))))))))))) := by rw [← eH10, upd_same]
  clear eH10
  refine ⟨by show 0 ≤ sizeLine; decide, fun a5 ha5 => ?_⟩
  have hx10 : H10 x ≠ none := by rw [x10]; simp
  have j10 := k10.new (o := .lst []) hx10 ha5
  have y10 : upd H10 a5 (.lst []) x = some (.ins (cH K) dx (putF ("clocks" : Str) (V.ref a4) (putF ("staff" : Str) (V.ref a3) (putF ("counting" : Str) (V.ref a2) (putF ("given" : Str) (V.int 0) (putF ("jobs" : Str) (V.ref a1) (putF ("limits" : Str) (V.ref y) (putF ("age" : Str) (V.int age) (putF ("hands" : Str) (V.int hands) (putF ("pause" : Str) (V.int pause) (putF ("hold" : Str) (V.int hold) (putF ("here" : Str) (V.int 0) [])))))))))))) := (upd_ne fun z => hx10 (by rw [z]; exact ha5)).trans x10
  refine ⟨_, rfl, w0 y10 T.c_House T.n_House_entries (Nat.le_of_ble_eq_true (by kernel_rfl)) ?_⟩
  have k11 := j10.putx (o := .ins (cH K) dx (putF ("entries" : Str) (V.ref a5) (putF ("clocks" : Str) (V.ref a4) (putF ("staff" : Str) (V.ref a3) (putF ("counting" : Str) (V.ref a2) (putF ("given" : Str) (V.int 0) (putF ("jobs" : Str) (V.ref a1) (putF ("limits" : Str) (V.ref y) (putF ("age" : Str) (V.int age) (putF ("hands" : Str) (V.int hands) (putF ("pause" : Str) (V.int pause) (putF ("hold" : Str) (V.int hold) (putF ("here" : Str) (V.int 0) []))))))))))))) hx0
  generalize eH11 : upd (upd H10 a5 (.lst [])) x (.ins (cH K) dx (putF ("entries" : Str) (V.ref a5) (putF ("clocks" : Str) (V.ref a4) (putF ("staff" : Str) (V.ref a3) (putF ("counting" : Str) (V.ref a2) (putF ("given" : Str) (V.int 0) (putF ("jobs" : Str) (V.ref a1) (putF ("limits" : Str) (V.ref y) (putF ("age" : Str) (V.int age) (putF ("hands" : Str) (V.int hands) (putF ("pause" : Str) (V.int pause) (putF ("hold" : Str) (V.int hold) (putF ("here" : Str) (V.int 0) []))))))))))))) = H11 at k11 ⊢
  have x11 : H11 x = some (.ins (cH K) dx (putF ("entries" : Str) (V.ref a5) (putF ("clocks" : Str) (V.ref a4) (putF ("staff" : Str) (V.ref a3) (putF ("counting" : Str) (V.ref a2) (putF ("given" : Str) (V.int 0) (putF ("jobs" : Str) (V.ref a1) (putF ("limits" : Str) (V.ref y) (putF ("age" : Str) (V.int age) (putF ("hands" : Str) (V.int hands) (putF ("pause" : Str) (V.int pause) (putF ("hold" : Str) (V.int hold) (putF ("here" : Str) (V.int 0) []))))))))))))) := by rw [← eH11, upd_same]
  clear eH11
  obtain ⟨G, eG⟩ : ∃ G : HG, G = ⟨x, dx, y, dy, D, a1, a2, a3, a4, a5, 0, hold, pause, hands, age, rows, [], 0, [], [], [], []⟩ := ⟨_, rfl⟩
  have eF : (putF ("entries" : Str) (V.ref a5) (putF ("clocks" : Str) (V.ref a4) (putF ("staff" : Str) (V.ref a3) (putF ("counting" : Str) (V.ref a2) (putF ("given" : Str) (V.int 0) (putF ("jobs" : Str) (V.ref a1) (putF ("limits" : Str) (V.ref y) (putF ("age" : Str) (V.int age) (putF ("hands" : Str) (V.int hands) (putF ("pause" : Str) (V.int pause) (putF ("hold" : Str) (V.int hold) (putF ("here" : Str) (V.int 0) [])))))))))))) = houseFs G := by
    rw [eG]
    kernel_rfl
  rw [eF] at x11
  have hxN : ∀ b, H b = none → b ≠ x := fun b hb z => hx0 (by rw [← z]; exact hb)
  have hat := k11.at_
  have hfr := k11.fresh
  have hpl : pa0 G = [x, y, D, a1, a2, a3, a4, a5] := by rw [eG]; rfl
  have hnd : (adr G).Nodup := by
    have e1 : adr G = x :: y :: D :: a1 :: a2 :: a3 :: a4 :: a5 :: pa1 rows := by rw [eG]; simp [adr, pa0, pa2, pa3, pa4]
    have n1 := k11.nd
    have e2 : ([(a5, HO.lst []), (a4, HO.lst []), (a3, HO.dK []), (a2, HO.dK []), (a1, HO.lst []), (y, HO.ins (cM K) dy [("rows", V.ref D)]), (D, HO.dK (rowsD rows))] ++ rowsK rows).map (·.1) = a5 :: a4 :: a3 :: a2 :: a1 :: y :: D :: pa1 rows := by
      rw [List.map_append, rowsK_fst]
      rfl
    have n2 : (a5 :: a4 :: a3 :: a2 :: a1 :: y :: D :: pa1 rows).Nodup := by rw [← e2]; exact n1
    have n3 : x ∉ a5 :: a4 :: a3 :: a2 :: a1 :: y :: D :: pa1 rows := fun m => by
      rw [← e2] at m
      obtain ⟨p, hp', e⟩ := List.mem_map.mp m
      exact hxN _ (hfr p hp') e
    have p : (y :: D :: a1 :: a2 :: a3 :: a4 :: a5 :: pa1 rows).Perm (a5 :: a4 :: a3 :: a2 :: a1 :: y :: D :: pa1 rows) := by
      have : (([y, D] ++ [a1, a2, a3, a4, a5]) ++ pa1 rows).Perm (([a5, a4, a3, a2, a1] ++ [y, D]) ++ pa1 rows) := by
        refine List.Perm.append_right _ (List.perm_append_comm.trans (List.Perm.append_right _ ?_))
        exact (List.reverse_perm [a1, a2, a3, a4, a5]).symm
      exact this
    rw [e1, List.nodup_cons]
    exact ⟨fun m => n3 (p.mem_iff.mp m), (p.nodup_iff).mpr n2⟩
  have look : ∀ (b : Addr) (o : HO), (b, o) ∈ ([(a5, HO.lst []), (a4, HO.lst []), (a3, HO.dK []), (a2, HO.dK []), (a1, HO.lst []), (y, HO.ins (cM K) dy [("rows", V.ref D)]), (D, HO.dK (rowsD rows))] ++ rowsK rows) → H11 b = some o := fun b o m => hat (b, o) m
  have hH : HouseAt K H11 G := by
    refine ⟨by rw [eG]; rw [eG] at x11; exact x11, ?_, ?_, ?_, ?_, ?_, ?_, ?_, ?_, ?_, ?_, ?_, ?_, ?_, hnd⟩
    · rw [eG]; exact look _ _ (by simp)
    · rw [eG]; exact look _ _ (by simp)
    · rw [eG]; exact look _ _ (by simp [refs])
    · rw [eG]; exact look _ _ (by simp [cntD])
    · rw [eG]; exact look _ _ (by simp [staffD])
    · rw [eG]; exact look _ _ (by simp [refs])
    · rw [eG]; exact look _ _ (by simp)
    · rw [eG]
      intro r hr'
      exact ⟨look _ _ (List.mem_append_right _ (List.mem_flatMap.mpr ⟨r, hr', by simp⟩)), look _ _ (List.mem_append_right _ (List.mem_flatMap.mpr ⟨r, hr', by simp⟩))⟩
    all_goals
      rw [eG]
      intro r hr'
      cases hr'
  refine q H11 G hH (by rw [eG]) (fun b o hb e => ⟨k11.same b o hb e, fun m => ?_⟩) ?_
  · have : H11 b ≠ none := by rw [k11.same b o hb e]; simp
    have e1 : adr G = x :: y :: D :: a1 :: a2 :: a3 :: a4 :: a5 :: pa1 rows := by rw [eG]; simp [adr, pa0, pa2, pa3, pa4]
    rw [e1] at m
    rcases List.mem_cons.mp m with z | z
    · exact hb z
    · have e2 : ([(a5, HO.lst []), (a4, HO.lst []), (a3, HO.dK []), (a2, HO.dK []), (a1, HO.lst []), (y, HO.ins (cM K) dy [("rows", V.ref D)]), (D, HO.dK (rowsD rows))] ++ rowsK rows).map (·.1) = a5 :: a4 :: a3 :: a2 :: a1 :: y :: D :: pa1 rows := by
        rw [List.map_append, rowsK_fst]
        rfl
      have z2 : b ∈ a5 :: a4 :: a3 :: a2 :: a1 :: y :: D :: pa1 rows := by
        simp only [List.mem_cons] at z ⊢
        rcases z with z | z | z | z | z | z | z | z <;> simp [z]
      rw [← e2] at z2
      obtain ⟨p, hp', ep⟩ := List.mem_map.mp z2
      have := hfr p hp'
      rw [ep] at this
      rw [this] at e
      cases e
  · rw [eG]
    unfold HG.er newHouse
    simp only [n4.er, List.map_nil]
end LH
end

section
set_option Elab.async false
set_option linter.all false
set_option maxRecDepth 100000
set_option maxHeartbeats 4000000
set_option pp.maxSteps 1500
namespace LH
open PySem PySem.Spec PyProof.Rows L2 StX LamX
variable {P : Program} {w : World} {K : PySem.W.Frag} {mg : Str → Option Value} {base : Heap}
def encS (h : HouseS) : Key × V → PyData × PyData
  | (.inr n, _) => (.str n, .tuple ((h.kindsOf n).map .str))
  | (.inl _, _) => (.none, .none)
theorem find_name {l : List StaffG} {x : StaffG} (nd : (l.map (·.name)).Nodup) (h : x ∈ l) : l.find? (fun o => decide (o.name = x.name)) = some x := by
  induction l with
  | nil => cases h
  | cons a l ih =>
    rw [List.map_cons, List.nodup_cons] at nd
    rcases List.mem_cons.mp h with e | h
    · subst e
      simp
    · have hne : a.name ≠ x.name := fun z => nd.1 (by rw [z]; exact List.mem_map_of_mem h)
      rw [List.find?_cons, decide_eq_false hne]
      exact ih nd.2 h
theorem alike_strs : ∀ l m : List Str, PySem.W.alikeAll (l.map .str) (m.map .str) = true
  | [], _ => by simp [PySem.W.alikeAll]
  | a :: l, [] => by simp [PySem.W.alikeAll]
  | a :: l, b :: m => by simp [PySem.W.alikeAll, PySem.W.alike, alike_strs l m]
theorem deep_strs : ∀ l : List Str, PyData.depthAll (l.map .str) ≤ 1
  | [] => by simp [PyData.depthAll]
  | a :: l => by
    have := deep_strs l
    simp only [List.map_cons, PyData.depthAll, PyData.depth]
    omega
@[irreducible] def sp_House_workers (K : PySem.W.Frag) : Sp := fun vs H Q E => ∃ G : HG, vs = [.ref G.p] ∧ HouseAt K H G ∧ HouseOk G.er ∧ ∀ H' t zs ds, Same H H' → H' t = some (.lst zs) → G.er.workers = .list ds → Dts K H' zs ds → Q (.ref t) H'
theorem sc_House_workers : FnScope ["self"] ["self"] (defScope s_House_workers) := ⟨rfl, rfl, rfl, by decide +kernel, rfl, by decide +kernel, by decide +kernel⟩
theorem Tp.ok_House_workers (T : Tp P w K mg base) : FnR P w K mg base (L2.CX P w) (2 + 1) (He.ma K (He.ga K "House") "workers") (sp_House_workers K) := by
  refine fnr (N := ["self"]) (ps := ["self"]) (k := 2) T.fd_House_workers sc_House_workers (fun _ _ _ _ _ _ us hl => match us, hl with | [_], _ => rfl) (fun vs H Q E h => ?_) fun cdv A outer s H vs Q E hr h => ?_
  · unfold sp_House_workers at h
    obtain ⟨_, rfl, _⟩ := h
    rfl
  unfold sp_House_workers at h
  obtain ⟨G, rfl, hg, ok, q⟩ := h
  refine ⟨_, (pss_one (ps_ret (pe_sortI hr rfl rfl T.f_sorted (pe_fld (pv 0) rfl)))), ?_⟩
  have nd : (G.staff.map (·.name)).Nodup := by
    have := ok.staff
    unfold HG.er at this
    simpa [List.map_map, Function.comp_def] using this
  have hk : ∀ s ∈ G.staff, encS G.er (Sum.inr s.name, V.ref s.t) = (.str s.name, .tuple (s.kinds.map .str)) := fun s hs => by
    show ((PyData.str s.name, PyData.tuple ((G.er.kindsOf s.name).map PyData.str)) : PyData × PyData) = _
    rw [er_staff G s.name (find_name nd hs)]
  refine ⟨_, rfl, T.hr_staff hg ⟨_, _, encS G.er, rfl, hg.sd, fun p hp => ?_, ?_, fun p hp => ?_, fun H2 p zs s hn e ds => ?_⟩⟩
  · obtain ⟨s, hs, rfl⟩ := List.mem_map.mp hp
    rw [hk s hs]
    exact ⟨.str _, .tup (hg.staff s hs) (dts_strs _)⟩
  · intro d hd d' hd'
    obtain ⟨p, hp, rfl⟩ := List.mem_map.mp hd
    obtain ⟨p', hp', rfl⟩ := List.mem_map.mp hd'
    obtain ⟨s, hs, rfl⟩ := List.mem_map.mp hp
    obtain ⟨s', hs', rfl⟩ := List.mem_map.mp hp'
    rw [hk s hs, hk s' hs']
    simp [PySem.W.alike, PySem.W.alikeAll, alike_strs]
  · obtain ⟨s, hs, rfl⟩ := List.mem_map.mp hp
    rw [hk s hs]
    have := deep_strs s.kinds
    simp only [PyData.depth, PyData.depthAll]
    omega
  · refine q H2 p zs _ s e ?_ ds
    rw [HouseS.workers_eq, zip_sort, zip_sort]
    congr 2
    unfold HG.er staffD
    simp only [List.map_map]
    apply List.map_congr_left
    intro s hs
    have := hk s hs
    simp only [Function.comp_apply]
    unfold HG.er at this
    rw [this]
    rfl
end LH
end

section
set_option Elab.async false
set_option linter.all false
set_option maxRecDepth 100000
set_option maxHeartbeats 4000000
namespace LH
open PySem PySem.Spec PyProof.Rows L2
/-! ### what holds of a house between two calls; n, m: how many calls, jobs with needs there is room for -/
structure Good (n m : Nat) (h : HouseS) : Prop where
  ok : HouseOk h
  ti : Timely h
  log : h.log.length + n ≤ 1000000
  cnt : h.cnt.length + n ≤ 999999
  ticks : ∀ r ∈ h.rows, r.ticks.length + n ≤ 1000000
  staff : h.staff.length + n ≤ 1000000
  pot : h.jobs.length + h.clks.length + (h.clks.map fun c => c.left.toNat).sum + 101 * n ≤ 900000
  needy : (h.jobs.filter fun j => decide (j.needs ≠ [])).length + m ≤ 120
  hold : 1 ≤ h.hold ∧ h.hold ≤ 99
  age : 0 ≤ h.age ∧ h.age ≤ 99
  here : 0 ≤ h.here ∧ h.here ≤ 99999
  names : ∀ s ∈ h.staff, isName s.1 = true
  kinds : ∀ r ∈ h.rows, isName r.kind = true
theorem Good.less {n m n' m' : Nat} {h : HouseS} (g : Good n m h) (hn : n' ≤ n) (hm : m' ≤ m) : Good n' m' h :=
  ⟨g.ok, g.ti, by have := g.log; omega, by have := g.cnt; omega, fun r hr => by have := g.ticks r hr; omega, by have := g.staff; omega, by have := g.pot; omega, by have := g.needy; omega, g.hold, g.age, g.here, g.names, g.kinds⟩
/-! ### one job changes -/
theorem jobUp_some {h : HouseS} {i : Nat} {j : JobS} (ej : h.jobs[i]? = some j) (f : JobS → JobS) : h.jobUp i f = { h with jobs := h.jobs.set i (f j) } := by
  unfold HouseS.jobUp
  rw [ej]
theorem HouseOk.jobUp {h : HouseS} (ok : HouseOk h) {i : Nat} {j : JobS} (ej : h.jobs[i]? = some j) (f : JobS → JobS) (hs : (f j).steps = j.steps) (hn : (f j).needs = j.needs) (hh : (f j).held = j.held) (ht : (f j).tries ≤ 900)
    (ha : (1 ≤ (f j).most ∧ (f j).most ≤ 9) ∧ ((f j).tries : Int) ≤ (f j).most ∧ ((f j).ended = none → ((f j).tries : Int) < (f j).most) ∧ ((f j).held ≠ none → (f j).ended = none)) : HouseOk (h.jobUp i f) := by
  rw [jobUp_some ej]
  refine ⟨ok.rows, fun k q e => ?_, fun o ho => ?_, ok.nums, fun k q m e hq => ?_, ok.staff, ok.pause, ?_, ⟨?_, ok.sizes.2⟩, fun k q e => ?_, ok.clks, ?_⟩
  · rcases set_get e with ⟨rfl, rfl, _⟩ | ⟨_, e⟩
    · obtain ⟨a, b, c, d, g, _⟩ := ok.jobs _ _ ej
      exact ⟨by rw [hs]; exact a, by rw [hs]; exact b, by rw [hn]; exact c, by rw [hn]; exact d, by rw [hs]; exact g, ht⟩
    · exact ok.jobs k q e
  · obtain ⟨h1, q, eq, hq⟩ := ok.cnt o ho
    refine ⟨h1, ?_⟩
    show ∃ j', (h.jobs.set i (f j))[o.work]? = some j' ∧ j'.held = some o.num
    by_cases hne : i = o.work
    · rw [hne] at ej
      rw [ej] at eq
      obtain rfl := Option.some.inj eq
      exact ⟨f j, by rw [hne]; exact List.getElem?_set_self (List.getElem?_eq_some_iff.mp ej).1, by rw [hh]; exact hq⟩
    · exact ⟨q, by rw [List.getElem?_set_ne hne]; exact eq, hq⟩
  · rcases set_get e with ⟨rfl, rfl, _⟩ | ⟨_, e⟩
    · rw [hh] at hq
      exact ok.held _ _ m ej hq
    · exact ok.held k q m e hq
  · show ((h.jobs.set i (f j)).filter fun j => decide (j.needs ≠ [])).length ≤ 120
    rw [filter_set_len _ ej (by simp [hn])]
    exact ok.needy
  · show (h.jobs.set i (f j)).length ≤ _
    rw [List.length_set]
    exact ok.sizes.1
  · rcases set_get e with ⟨rfl, rfl, _⟩ | ⟨_, e⟩
    · exact ha
    · exact ok.alive k q e
  · show (h.jobs.set i (f j)).length + _ + _ ≤ _
    rw [List.length_set]
    exact ok.pot
/-- all jobs change what no other thing leans on -/
theorem HouseOk.mapJobs {h : HouseS} (ok : HouseOk h) (f : JobS → JobS) (hs : ∀ j, (f j).steps = j.steps) (hn : ∀ j, (f j).needs = j.needs) (hh : ∀ j, (f j).held = j.held) (ht : ∀ j, (f j).tries = j.tries) (hm : ∀ j, (f j).most = j.most) (he : ∀ j, (f j).ended = j.ended) :
    HouseOk { h with jobs := h.jobs.map f } := by
  have get : ∀ {i : Nat} {q : JobS}, (h.jobs.map f)[i]? = some q → ∃ j, h.jobs[i]? = some j ∧ f j = q := fun {i q} e => by
    rw [List.getElem?_map] at e
    cases ej : h.jobs[i]? with
    | none => rw [ej] at e; cases e
    | some j => rw [ej] at e; exact ⟨j, rfl, Option.some.inj e⟩
  refine ⟨ok.rows, fun i q e => ?_, fun o ho => ?_, ok.nums, fun i q m e hq => ?_, ok.staff, ok.pause, ?_, ⟨by show (h.jobs.map f).length ≤ _; rw [List.length_map]; exact ok.sizes.1, ok.sizes.2⟩, fun i q e => ?_, ok.clks, by show (h.jobs.map f).length + _ + _ ≤ _; rw [List.length_map]; exact ok.pot⟩
  · obtain ⟨j, ej, rfl⟩ := get e
    rw [hs, hn, ht]
    exact ok.jobs i j ej
  · obtain ⟨h1, j, ej, hj⟩ := ok.cnt o ho
    refine ⟨h1, f j, ?_, by rw [hh]; exact hj⟩
    show (h.jobs.map f)[o.work]? = _
    rw [List.getElem?_map, ej]
    rfl
  · obtain ⟨j, ej, rfl⟩ := get e
    rw [hh] at hq
    exact ok.held i j m ej hq
  · show ((h.jobs.map f).filter fun j => decide (j.needs ≠ [])).length ≤ 120
    rw [List.filter_map, List.length_map]
    have e1 : ((fun j : JobS => decide (j.needs ≠ [])) ∘ f) = fun j => decide (j.needs ≠ []) := by
      funext j
      simp [hn]
    rw [e1]
    exact ok.needy
  · obtain ⟨j, ej, rfl⟩ := get e
    rw [hm, ht, he, hh]
    exact ok.alive i j ej
/-! ### the calls -/
theorem Good.note {n m : Nat} {h : HouseS} (g : Good (n + 1) m h) (d : PyData) : Good n m (h.note d) := by
  have hl := g.log
  refine ⟨g.ok.note d (by omega), ⟨g.ti.lease, g.ti.clock, g.ti.hold⟩, ?_, ?_, fun r hr => ?_, ?_, ?_, g.needy, g.hold, g.age, g.here, g.names, g.kinds⟩
  · show (h.log ++ [d]).length + n ≤ _
    rw [List.length_append, List.length_singleton]
    omega
  · have := g.cnt
    show h.cnt.length + n ≤ _
    omega
  · have := g.ticks r hr
    omega
  · have := g.staff
    show h.staff.length + n ≤ _
    omega
  · have := g.pot
    show h.jobs.length + h.clks.length + (h.clks.map fun c => c.left.toNat).sum + 101 * n ≤ _
    omega
/-- what closing a lease and changing its job leaves -/
theorem close_rest {h : HouseS} {l : LeaseS} {j : JobS} (ej : h.jobs[l.work]? = some j) (f : JobS → JobS) :
    (h.closed l).jobUp l.work f = { h.rowUp j.kind (fun r => { r with cnt := r.cnt - 1 }) with cnt := h.cnt.filter fun o => decide (o.num ≠ l.num), jobs := h.jobs.set l.work (f j) } := by
  unfold HouseS.closed
  rw [ej]
  unfold HouseS.jobUp
  show (match h.jobs[l.work]? with | none => _ | some j => _) = _
  rw [ej]
  rfl
theorem rowUp_ticks {h : HouseS} {k : Str} {f : RowS → RowS} {p : RowS → Prop} (hp : ∀ r ∈ h.rows, p r) (hf : ∀ r, p r → p (f r)) : ∀ r ∈ (h.rowUp k f).rows, p r := fun r hr => by
  unfold HouseS.rowUp at hr
  obtain ⟨q, hq, rfl⟩ := List.mem_map.mp hr
  by_cases z : q.kind = k
  · rw [if_pos z]
    exact hf q (hp q hq)
  · rw [if_neg z]
    exact hp q hq
theorem Good.close {n m : Nat} {h : HouseS} (g : Good n m h) {l : LeaseS} {j : JobS} (ej : h.jobs[l.work]? = some j) (f : JobS → JobS) (hn : (f j).needs = j.needs) (ok : HouseOk ((h.closed l).jobUp l.work f)) : Good n m ((h.closed l).jobUp l.work f) := by
  rw [close_rest ej] at ok ⊢
  refine ⟨ok, ⟨fun o ho => g.ti.lease o (List.mem_filter.mp ho).1, g.ti.clock, g.ti.hold⟩, g.log, ?_, rowUp_ticks (p := fun r => r.ticks.length + n ≤ 1000000) g.ticks fun r h => h, g.staff, ?_, ?_, g.hold, g.age, g.here, g.names, rowUp_ticks (p := fun r => isName r.kind = true) g.kinds fun r h => h⟩
  · have := g.cnt
    have h2 := List.length_filter_le (fun o : LeaseS => decide (o.num ≠ l.num)) h.cnt
    show (h.cnt.filter fun o => decide (o.num ≠ l.num)).length + n ≤ _
    omega
  · show (h.jobs.set l.work (f j)).length + h.clks.length + _ + 101 * n ≤ _
    rw [List.length_set]
    exact g.pot
  · show ((h.jobs.set l.work (f j)).filter fun j => decide (j.needs ≠ [])).length + m ≤ 120
    rw [filter_set_len _ ej (by simp [hn])]
    exact g.needy
theorem Good.jobUp {n m : Nat} {h : HouseS} (g : Good n m h) {i : Nat} {j : JobS} (ej : h.jobs[i]? = some j) (f : JobS → JobS) (hn : (f j).needs = j.needs) (ok : HouseOk (h.jobUp i f)) : Good n m (h.jobUp i f) := by
  rw [jobUp_some ej] at ok ⊢
  refine ⟨ok, ⟨g.ti.lease, g.ti.clock, g.ti.hold⟩, g.log, g.cnt, g.ticks, g.staff, ?_, ?_, g.hold, g.age, g.here, g.names, g.kinds⟩
  · show (h.jobs.set i (f j)).length + h.clks.length + _ + 101 * n ≤ _
    rw [List.length_set]
    exact g.pot
  · show ((h.jobs.set i (f j)).filter fun j => decide (j.needs ≠ [])).length + m ≤ 120
    rw [filter_set_len _ ej (by simp [hn])]
    exact g.needy
theorem lease_mem {h : HouseS} {n : Nat} {l : LeaseS} (e : h.lease n = some l) : l ∈ h.cnt ∧ l.num = n := ⟨List.mem_of_find?_eq_some e, by simpa using List.find?_some e⟩
theorem Good.fail {n m : Nat} {h : HouseS} (g : Good (n + 1) m h) (k : Nat) : Good n m (h.fail k).2 := by
  unfold HouseS.fail
  cases e : h.lease k with
  | none => exact g.less (by omega) (Nat.le_refl _)
  | some l =>
    have hl := (lease_mem e).1
    have g1 := g.note (.tuple [S' "fail", N' k])
    obtain ⟨j, ej, _⟩ := lease_jobS g1.ok hl
    exact g1.close ej _ (stepFailed_steps _ _ _).2 (g1.ok.failOne hl)
theorem Good.free {n m : Nat} {h : HouseS} (g : Good n m h) (i : Nat) (t : Int) : Good n m { h with jobs := h.jobs.map (freeJ i t) } := by
  have ok3 := g.ok.mapJobs (freeJ i t) (fun j => by unfold freeJ; split <;> rfl) (fun j => by unfold freeJ; split <;> rfl) (fun j => by unfold freeJ; split <;> rfl) (fun j => by unfold freeJ; split <;> rfl) (fun j => by unfold freeJ; split <;> rfl) (fun j => by unfold freeJ; split <;> rfl)
  refine ⟨ok3, ⟨g.ti.lease, g.ti.clock, g.ti.hold⟩, g.log, g.cnt, g.ticks, g.staff, ?_, ?_, g.hold, g.age, g.here, g.names, g.kinds⟩
  · show (h.jobs.map _).length + _ + _ + _ ≤ _
    rw [List.length_map]
    exact g.pot
  · show ((h.jobs.map (freeJ i t)).filter fun j => decide (j.needs ≠ [])).length + m ≤ 120
    rw [List.filter_map, List.length_map]
    have e1 : ((fun j : JobS => decide (j.needs ≠ [])) ∘ freeJ i t) = fun j => decide (j.needs ≠ []) := by
      funext j
      simp only [Function.comp_apply, freeJ]
      split <;> rfl
    rw [e1]
    exact g.needy
theorem Good.done {n m : Nat} {h : HouseS} (g : Good (n + 1) m h) (k : Nat) : Good n m (h.done k).2 := by
  unfold HouseS.done
  cases e : h.lease k with
  | none => exact g.less (by omega) (Nat.le_refl _)
  | some l =>
    have hl := (lease_mem e).1
    have g1 := g.note (.tuple [S' "done", N' k])
    obtain ⟨j, ej, _⟩ := lease_jobS g1.ok hl
    have g2 := g1.close (l := l) ej (fun j => j.stepDone h.here) rfl (g1.ok.stepOne hl h.here)
    simp only
    split
    · exact g2.free l.work h.here
    · exact g2
theorem Good.beat {n m : Nat} {h : HouseS} (g : Good (n + 1) m h) (k : Nat) : Good n m (h.beat k).2 := by
  unfold HouseS.beat
  cases e : h.lease k with
  | none => exact g.less (by omega) (Nat.le_refl _)
  | some l =>
    have g1 := g.note (.tuple [S' "beat", N' k])
    have up : ∀ o ∈ h.cnt.map (fun l => if l.num = k then { l with til := h.here + h.hold } else l), ∃ q ∈ h.cnt, o.num = q.num ∧ o.work = q.work ∧ (o.til = q.til ∨ o.til = h.here + h.hold) := fun o ho => by
      obtain ⟨q, hq, rfl⟩ := List.mem_map.mp ho
      refine ⟨q, hq, ?_⟩
      split
      · exact ⟨rfl, rfl, .inr rfl⟩
      · exact ⟨rfl, rfl, .inl rfl⟩
    have en : (h.cnt.map (fun l => if l.num = k then { l with til := h.here + h.hold } else l)).map (·.num) = h.cnt.map (·.num) := by
      rw [List.map_map]
      apply List.map_congr_left
      intro o _
      simp only [Function.comp_apply]
      split <;> rfl
    have ok2 : HouseOk { h.note (.tuple [S' "beat", N' k]) with cnt := h.cnt.map fun l => if l.num = k then { l with til := h.here + h.hold } else l } := by
      refine ⟨g1.ok.rows, g1.ok.jobs, fun o ho => ?_, ?_, fun i j q ej hj => ?_, g1.ok.staff, g1.ok.pause, g1.ok.needy, ⟨g1.ok.sizes.1, ?_, g1.ok.sizes.2.2⟩, g1.ok.alive, g1.ok.clks, g1.ok.pot⟩
      · obtain ⟨q, hq, e1, e2, _⟩ := up o ho
        rw [e1, e2]
        exact g1.ok.cnt q hq
      · have z := g.ok.nums
        rw [← en] at z
        exact z
      · obtain ⟨l, hl, e1, e2⟩ := g1.ok.held i j q ej hj
        refine ⟨_, List.mem_map_of_mem hl, ?_, ?_⟩
        · split <;> exact e1
        · split <;> exact e2
      · show (h.cnt.map _).length ≤ _
        rw [List.length_map]
        exact g1.ok.sizes.2.1
    refine ⟨ok2, ⟨fun o ho => ?_, g1.ti.clock, g1.ti.hold⟩, g1.log, ?_, g1.ticks, g1.staff, g1.pot, g1.needy, g1.hold, g1.age, g1.here, g1.names, g1.kinds⟩
    · obtain ⟨q, hq, _, _, e3⟩ := up o ho
      have h1 := g.ti.lease q hq
      have h2 := g.hold
      show h.here < o.til
      omega
    · show (h.cnt.map _).length + n ≤ _
      rw [List.length_map]
      exact g1.cnt
theorem Good.tell {n m : Nat} {h : HouseS} (g : Good (n + 1) m h) (k : Nat) (z : Int) : Good n m (h.tell k z).2 := by
  have g0 := g.less (n' := n) (m' := m) (by omega) (Nat.le_refl _)
  unfold HouseS.tell
  cases e : h.lease k with
  | none => exact g0
  | some l =>
    simp only
    cases ej : h.jobs[l.work]? with
    | none => exact g0
    | some j =>
      simp only
      split
      · exact g0
      · have g1 := g.note (.tuple [S' "tell", N' k, I' z])
        have ej1 : (h.note (.tuple [S' "tell", N' k, I' z])).jobs[l.work]? = some j := ej
        exact g1.jobUp ej1 _ rfl (g1.ok.jobUp ej1 (fun j => { j with share := z }) rfl rfl rfl (by have z := (g1.ok.jobs _ _ ej1).2.2.2.2.2; exact z) (by have z := g1.ok.alive _ _ ej1; exact z))
theorem Good.again {n m : Nat} {h : HouseS} (g : Good (n + 1) m h) (k : Nat) : Good n m (h.again k).2 := by
  have g0 := g.less (n' := n) (m' := m) (by omega) (Nat.le_refl _)
  unfold HouseS.again
  cases ej : h.jobs[k]? with
  | none => exact g0
  | some j =>
    simp only
    split
    · exact g0
    · have g1 := g.note (.tuple [S' "again", N' k])
      have ej1 : (h.note (.tuple [S' "again", N' k])).jobs[k]? = some j := ej
      obtain ⟨a, b, c, d⟩ := g1.ok.alive _ _ ej1
      exact g1.jobUp ej1 _ rfl (g1.ok.jobUp ej1 (fun j => j.again h.here) rfl rfl rfl (by show 0 ≤ 900; omega) ⟨a, by show ((0 : Nat) : Int) ≤ j.most; omega, fun _ => by show ((0 : Nat) : Int) < j.most; omega, fun _ => rfl⟩)
end LH
end

section
set_option Elab.async false
set_option linter.all false
set_option maxRecDepth 100000
set_option maxHeartbeats 4000000
namespace LH
open PySem PySem.Spec PyProof.Rows L2
theorem Good.lately {n m : Nat} {h : HouseS} (g : Good n m h) (k : Str) : Good n m (h.lately k).2 := by
  have ok := g.ok.lately k
  unfold HouseS.lately at ok ⊢
  cases e : h.row k with
  | none => exact g
  | some r =>
    rw [e] at ok
    refine ⟨ok, ⟨g.ti.lease, g.ti.clock, g.ti.hold⟩, g.log, g.cnt, rowUp_ticks (p := fun r => r.ticks.length + n ≤ 1000000) g.ticks fun r hr => ?_, g.staff, g.pot, g.needy, g.hold, g.age, g.here, g.names, rowUp_ticks (p := fun r => isName r.kind = true) g.kinds fun r h => h⟩
    have := List.length_filter_le (fun o => decide (o > h.here - 10)) r.ticks
    show (r.ticks.filter fun o => decide (o > h.here - 10)).length + n ≤ _
    omega
theorem Good.hind {n m : Nat} {h : HouseS} (g : Good n m h) (x : Str) (j : JobS) : Good n m (h.hindrance x j).2 := by
  unfold HouseS.hindrance
  cases e : h.row j.kind with
  | none => exact g
  | some r =>
    simp only
    split
    · exact g
    · split
      · exact g
      · split <;> exact g.lately _
theorem Good.why {n m : Nat} {h : HouseS} (g : Good n m h) (x : Str) (k : Nat) : Good n m (h.why x k).2 := by
  unfold HouseS.why
  split
  · split
    · exact g
    · exact g.hind _ _
  · exact g
theorem Good.limitsOf {n m : Nat} {h : HouseS} (g : Good n m h) (k : Str) : Good n m (h.limitsOf k).2 := by
  unfold HouseS.limitsOf
  split
  · exact g
  · exact g.lately k
theorem rowUp_row {h : HouseS} {k : Str} {f : RowS → RowS} (hk : ∀ r, (f r).kind = r.kind) {s : Str} (hs : ∃ r, h.row s = some r) : ∃ r, (h.rowUp k f).row s = some r := by
  obtain ⟨r, e⟩ := hs
  rw [row_up h k s f hk, e]
  split <;> exact ⟨_, rfl⟩
theorem ready_of {h : HouseS} {i : Nat} (hi : i ∈ h.order) : ∃ j, h.jobs[i]? = some j ∧ h.isReady j = true := by
  rw [HouseS.order_eq] at hi
  have h1 := (List.mem_mergeSort).mp hi
  unfold HouseS.ready at h1
  have h2 := (List.mem_filter.mp h1).2
  cases ej : h.jobs[i]? with
  | none => rw [ej] at h2; cases h2
  | some j => rw [ej] at h2; exact ⟨j, rfl, h2⟩
theorem ready_parts {h : HouseS} {j : JobS} (r : h.isReady j = true) : j.ended = none ∧ j.held = none ∧ j.til ≤ h.here ∧ h.missing j = [] := by
  unfold HouseS.isReady at r
  simp only [Bool.and_eq_true, decide_eq_true_eq] at r
  exact ⟨r.1.1.1, r.1.1.2, r.1.2, r.2⟩
theorem takeOne_eq {h : HouseS} {x : Str} {i : Nat} {j : JobS} (ej : h.jobs[i]? = some j) : h.takeOne x i j = { h.rowUp j.kind (fun r => { r with cnt := r.cnt + 1, ticks := r.ticks ++ [h.here] }) with
    given := h.given + 1, cnt := h.cnt ++ [⟨h.given, i, j.fin, x, h.here + h.hold⟩], jobs := h.jobs.set i { j with held := some h.given }, log := h.log ++ [.tuple [S' "take", .str x, N' i, N' j.fin, N' h.given]] } := by
  unfold HouseS.takeOne HouseS.jobUp
  show (match h.jobs[i]? with | none => _ | some j => _ : HouseS).note _ = _
  rw [ej]
  rfl
theorem HouseOk.takeOne {h : HouseS} (ok : HouseOk h) {x : Str} {i : Nat} {j : JobS} (ej : h.jobs[i]? = some j) (he : j.ended = none) (hh : j.held = none) (hl : h.log.length < 1000000) (hc : h.cnt.length < 1000000) (ht : ∀ r ∈ h.rows, r.ticks.length < 1000000) : HouseOk (h.takeOne x i j) := by
  have ok1 := ok.rowUp j.kind (fun r => { r with cnt := r.cnt + 1, ticks := r.ticks ++ [h.here] }) (fun _ => rfl) fun r hr _ => by
    show (r.ticks ++ [h.here]).length ≤ _
    rw [List.length_append, List.length_singleton]
    exact ht r hr
  obtain ⟨a, b, c, d⟩ := ok.alive _ _ ej
  rw [takeOne_eq ej]
  refine ⟨ok1.rows, fun k q e => ?_, fun o ho => ?_, ?_, fun k q m e hq => ?_, ok.staff, ok.pause, ?_, ⟨?_, ?_, ?_, ok.sizes.2.2.2.1, ok.sizes.2.2.2.2.1, ok1.sizes.2.2.2.2.2.1, ok1.sizes.2.2.2.2.2.2⟩, fun k q e => ?_, ok1.clks, ?_⟩
  · rcases set_get e with ⟨rfl, rfl, _⟩ | ⟨_, e⟩
    · have z := ok1.jobs _ _ ej
      exact z
    · exact ok1.jobs k q e
  · rcases List.mem_append.mp ho with z | z
    · obtain ⟨h1, q, eq, hq⟩ := ok.cnt o z
      refine ⟨Nat.lt_succ_of_lt h1, q, ?_, hq⟩
      show (h.jobs.set i _)[o.work]? = _
      rw [List.getElem?_set_ne]
      · exact eq
      · intro y
        rw [← y, ej] at eq
        rw [← Option.some.inj eq, hh] at hq
        cases hq
    · rw [List.mem_singleton.mp z]
      exact ⟨Nat.lt_succ_self _, _, List.getElem?_set_self (List.getElem?_eq_some_iff.mp ej).1, rfl⟩
  · show ((h.cnt ++ [(⟨h.given, i, j.fin, x, h.here + h.hold⟩ : LeaseS)]).map (·.num)).Nodup
    rw [List.map_append, List.nodup_append]
    refine ⟨ok.nums, by simp, fun u hu v hv e => ?_⟩
    obtain ⟨o, ho, rfl⟩ := List.mem_map.mp hu
    have h1 := (ok.cnt o ho).1
    have hv2 : v = h.given := by simpa using hv
    omega
  · rcases set_get e with ⟨rfl, rfl, _⟩ | ⟨_, e⟩
    · obtain rfl : h.given = m := Option.some.inj hq
      exact ⟨_, List.mem_append_right _ List.mem_cons_self, rfl, rfl⟩
    · obtain ⟨o, ho, e1, e2⟩ := ok.held k q m e hq
      exact ⟨o, List.mem_append_left _ ho, e1, e2⟩
  · show ((h.jobs.set i _).filter fun j => decide (j.needs ≠ [])).length ≤ 120
    rw [filter_set_len (y := { j with held := some h.given }) _ ej rfl]
    exact ok.needy
  · show (h.jobs.set i _).length ≤ _
    rw [List.length_set]
    exact ok.sizes.1
  · show (h.cnt ++ [_]).length ≤ _
    rw [List.length_append]
    exact hc
  · show (h.log ++ [_]).length ≤ _
    rw [List.length_append]
    exact hl
  · rcases set_get e with ⟨rfl, rfl, _⟩ | ⟨_, e⟩
    · exact ⟨a, b, c, fun _ => he⟩
    · exact ok.alive k q e
  · show (h.jobs.set i _).length + _ + _ ≤ _
    rw [List.length_set]
    exact ok.pot
theorem Good.takeOne {n m : Nat} {h : HouseS} (g : Good (n + 1) m h) {x : Str} {i : Nat} {j : JobS} (ej : h.jobs[i]? = some j) (he : j.ended = none) (hh : j.held = none) : Good n m (h.takeOne x i j) := by
  have h1 := g.log
  have h2 := g.cnt
  have ok := g.ok.takeOne (x := x) ej he hh (by omega) (by omega) fun r hr => by have := g.ticks r hr; omega
  rw [takeOne_eq ej] at ok ⊢
  refine ⟨ok, ⟨fun o ho => ?_, g.ti.clock, g.ti.hold⟩, ?_, ?_, fun r hr => ?_, by have := g.staff; show h.staff.length + n ≤ _; omega, ?_, ?_, g.hold, g.age, g.here, g.names, rowUp_ticks (p := fun r => isName r.kind = true) g.kinds fun r h => h⟩
  · rcases List.mem_append.mp ho with z | z
    · exact g.ti.lease o z
    · rw [List.mem_singleton.mp z]
      have := g.hold
      show h.here < h.here + h.hold
      omega
  · show (h.log ++ [_]).length + n ≤ _
    rw [List.length_append, List.length_singleton]
    omega
  · show (h.cnt ++ [_]).length + n ≤ _
    rw [List.length_append, List.length_singleton]
    omega
  · obtain ⟨q, hq, rfl⟩ := List.mem_map.mp hr
    have := g.ticks q hq
    split
    · show (q.ticks ++ [h.here]).length + n ≤ _
      rw [List.length_append, List.length_singleton]
      omega
    · omega
  · show (h.jobs.set i _).length + h.clks.length + (h.clks.map fun c => c.left.toNat).sum + 101 * n ≤ _
    rw [List.length_set]
    have := g.pot
    omega
  · show ((h.jobs.set i _).filter fun j => decide (j.needs ≠ [])).length + m ≤ 120
    rw [filter_set_len (y := { j with held := some h.given }) _ ej rfl]
    exact g.needy
theorem takeIn_good {n m : Nat} (x : Str) : ∀ (l : List Nat) (h : HouseS), Good (n + 1) m h → (∀ i ∈ l, ∃ j, h.jobs[i]? = some j ∧ j.ended = none ∧ j.held = none) → Good n m (HouseS.takeIn x l h).2
  | [], h, g, _ => g.less (by omega) (Nat.le_refl _)
  | i :: l, h, g, hl => by
    obtain ⟨j, ej, he, hh⟩ := hl i List.mem_cons_self
    unfold HouseS.takeIn
    rw [ej]
    have hr := hind_rest (h := h) x j
    have g1 := g.hind x j
    have ejs : (h.hindrance x j).2.jobs = h.jobs := by rw [hr]
    simp only
    split
    · exact g1.takeOne (by rw [ejs]; exact ej) he hh
    · exact takeIn_good x l _ g1 fun k hk => by rw [ejs]; exact hl k (List.mem_cons_of_mem _ hk)
theorem Good.take {n m : Nat} {h : HouseS} (g : Good (n + 1) m h) (x : Str) : Good n m (h.take x).2 := by
  unfold HouseS.take
  refine takeIn_good x _ h g fun i hi => ?_
  obtain ⟨j, ej, r⟩ := ready_of hi
  obtain ⟨a, b, _⟩ := ready_parts r
  exact ⟨j, ej, a, b⟩
theorem Good.drop {n m : Nat} {h : HouseS} (g : Good (n + 1) m h) (k : Nat) : Good n m (h.drop k).2 := by
  have g0 := g.less (n' := n) (m' := m) (by omega) (Nat.le_refl _)
  unfold HouseS.drop
  cases ej : h.jobs[k]? with
  | none => exact g0
  | some j =>
    simp only
    split
    · exact g0
    · rename_i he
      have he : j.ended = none := by simpa using he
      have g1 := g.note (.tuple [S' "drop", N' k])
      have ej1 : (h.note (.tuple [S' "drop", N' k])).jobs[k]? = some j := ej
      obtain ⟨a, b, c, d⟩ := g1.ok.alive _ _ ej1
      have h9 := (g1.ok.jobs _ _ ej1).2.2.2.2.2
      have fin : ∀ (h2 : HouseS) (j2 : JobS), Good n m h2 → h2.jobs[k]? = some j2 → j2.held = none → j2.tries = j.tries → j2.most = j.most → Good n m (h2.jobUp k fun j => { j with ended := some tDropped }) := fun h2 j2 g2 e2 hh2 ht2 hm2 => by
        have h8 := (g2.ok.jobs _ _ e2).2.2.2.2.2
        obtain ⟨a2, b2, _, _⟩ := g2.ok.alive _ _ e2
        exact g2.jobUp e2 _ rfl (g2.ok.jobUp e2 (fun j => { j with ended := some tDropped }) rfl rfl rfl (by exact h8) ⟨a2, b2, fun z => (by cases z), fun z => absurd hh2 z⟩)
      cases hh : j.held with
      | none => exact fin _ j g1 ej1 hh rfl rfl
      | some q =>
        simp only
        obtain ⟨l, hl, e1, e2⟩ := g1.ok.held _ _ q ej1 hh
        have el : (h.note (.tuple [S' "drop", N' k])).lease q = some l := by
          unfold HouseS.lease
          cases ef : (h.note (.tuple [S' "drop", N' k])).cnt.find? fun l => decide (l.num = q) with
          | none =>
            have := List.find?_eq_none.mp ef l hl
            simp [e1] at this
          | some l2 =>
            have h3 := List.mem_of_find?_eq_some ef
            have h4 : l2.num = q := by simpa using List.find?_some ef
            rw [num_inj g1.ok.nums h3 hl (h4.trans e1.symm)]
        rw [el]
        have ejw : (h.note (.tuple [S' "drop", N' k])).jobs[l.work]? = some j := by rw [e2]; exact ej1
        have g2 := g1.close (l := l) ejw (fun j => j.letGo h.here) rfl (g1.ok.goOne hl)
        have e3 : (((h.note (.tuple [S' "drop", N' k])).closed l).jobUp l.work fun j => j.letGo h.here).jobs[k]? = some (j.letGo h.here) := by
          rw [close_rest ejw, e2]
          exact List.getElem?_set_self (List.getElem?_eq_some_iff.mp ej1).1
        exact fin _ _ g2 e3 rfl rfl rfl
end LH
end

section
set_option Elab.async false
set_option linter.all false
set_option maxRecDepth 100000
set_option maxHeartbeats 4000000
namespace LH
open PySem PySem.Spec PyProof.Rows L2
theorem goOne_cnt {h : HouseS} (ok : HouseOk h) {l : LeaseS} (hl : l ∈ h.cnt) : (h.goOne l).cnt = (h.cnt.filter fun o => decide (o.num ≠ l.num)) := by
  obtain ⟨j, ej, _⟩ := lease_jobS ok hl
  unfold HouseS.goOne
  rw [close_rest ej]
theorem fold_go {n m : Nat} : ∀ (ls : List LeaseS) (h : HouseS), Good n m h → (∀ l ∈ ls, l ∈ h.cnt) → (ls.map (·.num)).Nodup → Good n m (ls.foldl HouseS.goOne h)
  | [], h, g, _, _ => g
  | l :: ls, h, g, hm, nd => by
    rw [List.map_cons, List.nodup_cons] at nd
    rw [List.foldl_cons]
    have hl := hm l List.mem_cons_self
    obtain ⟨j, ej, _⟩ := lease_jobS g.ok hl
    have g1 : Good n m (h.goOne l) := g.close ej (fun j => j.letGo h.here) rfl (g.ok.goOne hl)
    refine fold_go ls _ g1 (fun o ho => ?_) nd.2
    rw [goOne_cnt g.ok hl]
    refine List.mem_filter.mpr ⟨hm o (List.mem_cons_of_mem _ ho), ?_⟩
    have : o.num ≠ l.num := fun z => nd.1 (by rw [← z]; exact List.mem_map_of_mem ho)
    simpa using this
theorem Good.staffs {n m : Nat} {h : HouseS} (g : Good n m h) (L : List (Str × List Str)) (nd : (L.map (·.1)).Nodup) (hl : L.length + n ≤ 1000000) (hn : ∀ s ∈ L, isName s.1 = true) : Good n m { h with staff := L } :=
  ⟨⟨g.ok.rows, g.ok.jobs, g.ok.cnt, g.ok.nums, g.ok.held, nd, g.ok.pause, g.ok.needy, ⟨g.ok.sizes.1, g.ok.sizes.2.1, g.ok.sizes.2.2.1, g.ok.sizes.2.2.2.1, by show L.length ≤ _; omega, g.ok.sizes.2.2.2.2.2⟩, g.ok.alive, g.ok.clks, g.ok.pot⟩,
    ⟨g.ti.lease, g.ti.clock, g.ti.hold⟩, g.log, g.cnt, g.ticks, hl, g.pot, g.needy, g.hold, g.age, g.here, hn, g.kinds⟩
theorem Good.leave {n m : Nat} {h : HouseS} (g : Good (n + 1) m h) (x : Str) : Good n m (h.leave x) := by
  have g1 := g.note (.tuple [S' "leave", .str x])
  have g2 := g1.staffs (h.staff.filter fun s => decide (s.1 ≠ x)) (g1.ok.staff.sublist ((List.filter_sublist).map _)) (by
    have h1 := g1.staff
    have h2 := List.length_filter_le (fun s : Str × List Str => decide (s.1 ≠ x)) h.staff
    show (h.staff.filter fun s => decide (s.1 ≠ x)).length + n ≤ _
    have h3 : (h.note (.tuple [S' "leave", .str x])).staff.length = h.staff.length := rfl
    omega) fun s hs => g.names s (List.mem_filter.mp hs).1
  exact fold_go _ _ g2 (fun l hl => (List.mem_filter.mp hl).1) (g.ok.nums.sublist ((List.filter_sublist).map _))
theorem Good.join {n m : Nat} {h : HouseS} (g : Good (n + 1) m h) {x : Str} (hx : isName x = true) (hn : (h.staff.find? fun s => decide (s.1 = x)) = none) (ks : List Str) : Good n m (h.join x ks) := by
  have g1 := g.note (.tuple [S' "join", .str x, .tuple (ks.map .str)])
  refine g1.staffs (h.staff ++ [(x, ks)]) ?_ ?_ fun s hs => ?_
  · rw [List.map_append, List.nodup_append]
    refine ⟨g.ok.staff, by simp, fun u hu v hv e => ?_⟩
    obtain ⟨s, hs, rfl⟩ := List.mem_map.mp hu
    have hv2 : v = x := by simpa using hv
    have := List.find?_eq_none.mp hn s hs
    simp at this
    exact this (e.trans hv2)
  · rw [List.length_append, List.length_singleton]
    have := g.staff
    omega
  · rcases List.mem_append.mp hs with z | z
    · exact g.names s z
    · rw [List.mem_singleton.mp z]
      exact hx
theorem Good.limit {n m : Nat} {h : HouseS} (g : Good (n + 1) m h) (k : Str) (most rate : Int) : Good n m (h.limit k most rate) := by
  have g1 := g.note (.tuple [S' "limit", .str k, I' most, I' rate])
  have ok := g1.ok.rowUp k (fun r => { r with most := most, rate := rate }) (fun _ => rfl) fun r hr _ => g1.ok.sizes.2.2.2.2.2.2 r hr
  exact ⟨ok, ⟨g1.ti.lease, g1.ti.clock, g1.ti.hold⟩, g1.log, g1.cnt, rowUp_ticks (p := fun r => r.ticks.length + n ≤ 1000000) g1.ticks fun r h => h, g1.staff, g1.pot, g1.needy, g1.hold, g1.age, g1.here, g1.names, rowUp_ticks (p := fun r => isName r.kind = true) g1.kinds fun r h => h⟩
theorem Good.newJob {n m k : Nat} {h : HouseS} (g : Good n (m + k) h) {rank til most : Int} {steps : List Str} {needs : List Nat} (hs : steps ≠ []) (hsr : ∀ s ∈ steps, ∃ r, h.row s = some r) (hn : ∀ n ∈ needs, n < h.jobs.length) (hnl : needs.length ≤ 6) (hsl : steps.length ≤ 5)
    (hm : 1 ≤ most ∧ most ≤ 9) (hk : needs = [] ∨ 1 ≤ k) {n' : Nat} (hp : n' + 1 ≤ n) : Good n' m (h.newJob rank til steps needs most) := by
  have hpot := g.pot
  have hneedy := g.needy
  have ok := g.ok.newJob (rank := rank) (til := til) (most := most) hs hsr hn hnl hsl hm (by omega) (by
    rcases hk with z | z
    · exact .inl z
    · exact .inr (by omega))
  refine ⟨ok, ⟨g.ti.lease, g.ti.clock, g.ti.hold⟩, ?_, ?_, fun r hr => ?_, ?_, ?_, ?_, g.hold, g.age, g.here, g.names, g.kinds⟩
  · have := g.log
    show h.log.length + n' ≤ _
    omega
  · have := g.cnt
    show h.cnt.length + n' ≤ _
    omega
  · have := g.ticks r hr
    omega
  · have := g.staff
    show h.staff.length + n' ≤ _
    omega
  · show (h.jobs ++ [_]).length + h.clks.length + (h.clks.map fun c => c.left.toNat).sum + 101 * n' ≤ _
    rw [List.length_append, List.length_singleton]
    omega
  · show ((h.jobs ++ [(⟨rank, til, steps, needs, most, 0, 0, 0, none, none, h.here⟩ : JobS)]).filter fun j => decide (j.needs ≠ [])).length + m ≤ 120
    rw [List.filter_append, List.length_append]
    rcases hk with z | z
    · subst z
      have e : ([(⟨rank, til, steps, [], most, 0, 0, 0, none, none, h.here⟩ : JobS)].filter fun j => decide (j.needs ≠ [])) = [] := by simp
      rw [e]
      simp only [List.length_nil]
      omega
    · have := List.length_filter_le (fun j : JobS => decide (j.needs ≠ [])) [⟨rank, til, steps, needs, most, 0, 0, 0, none, none, h.here⟩]
      simp only [List.length_singleton] at this
      omega
theorem Good.add {n m k : Nat} {h : HouseS} (g : Good (n + 1) (m + k) h) {rank time : Int} {steps : List Str} {needs : List Nat} {tries : Int} (hs : steps ≠ []) (hsr : ∀ s ∈ steps, ∃ r, h.row s = some r) (hn : ∀ n ∈ needs, n < h.jobs.length) (hnl : needs.length ≤ 6) (hsl : steps.length ≤ 5)
    (hm : 1 ≤ tries ∧ tries ≤ 9) (hk : needs = [] ∨ 1 ≤ k) : Good n m (h.add rank time steps needs tries) := by
  have g1 := g.note (.tuple [S' "add", I' rank, I' time, .tuple (steps.map .str), .tuple (needs.map N'), I' tries])
  have hpot := g.pot
  have hneedy := g.needy
  have ok := g1.ok.newJob (rank := rank) (til := time) (most := tries) (steps := steps) (needs := needs) hs hsr hn hnl hsl hm (by
    show h.jobs.length + h.clks.length + (h.clks.map fun c => c.left.toNat).sum < _
    omega) (by
    rcases hk with z | z
    · exact .inl z
    · exact .inr (by show (h.jobs.filter fun j => decide (j.needs ≠ [])).length < 120; omega))
  refine ⟨ok, ⟨g1.ti.lease, g1.ti.clock, g1.ti.hold⟩, g1.log, g1.cnt, g1.ticks, g1.staff, ?_, ?_, g1.hold, g1.age, g1.here, g1.names, g1.kinds⟩
  · show (h.jobs ++ [_]).length + h.clks.length + (h.clks.map fun c => c.left.toNat).sum + 101 * n ≤ _
    rw [List.length_append, List.length_singleton]
    omega
  · show ((h.jobs ++ [(⟨rank, time, steps, needs, tries, 0, 0, 0, none, none, h.here⟩ : JobS)]).filter fun j => decide (j.needs ≠ [])).length + m ≤ 120
    rw [List.filter_append, List.length_append]
    rcases hk with z | z
    · subst z
      have e : ([(⟨rank, time, steps, [], tries, 0, 0, 0, none, none, h.here⟩ : JobS)].filter fun j => decide (j.needs ≠ [])) = [] := by simp
      rw [e]
      simp only [List.length_nil]
      omega
    · have := List.length_filter_le (fun j : JobS => decide (j.needs ≠ [])) [⟨rank, time, steps, needs, tries, 0, 0, 0, none, none, h.here⟩]
      simp only [List.length_singleton] at this
      omega
theorem Good.struck {n m : Nat} {h : HouseS} (g : Good n m h) (t : Int) (hl : ∀ l ∈ (h.strike t).cnt, (h.strike t).here < l.til) (hc : ∀ c ∈ (h.strike t).clks, c.left > 0 → (h.strike t).here < c.coming) : Good n m (h.strike t) := by
  have ok := g.ok.strike t
  have hs := bump_sum t h.clks
  rw [strike_eq] at ok hl hc ⊢
  refine ⟨ok, ⟨hl, hc, g.ti.hold⟩, g.log, g.cnt, g.ticks, g.staff, ?_, ?_, g.hold, g.age, g.here, g.names, g.kinds⟩
  · show (h.jobs ++ (h.clks.filter (dueC t)).map (bornC t h.here)).length + (h.clks.map (bumpC t)).length + ((h.clks.map (bumpC t)).map fun c => c.left.toNat).sum + 101 * n ≤ _
    rw [List.length_append, List.length_map, List.length_map]
    have := g.pot
    omega
  · show ((h.jobs ++ (h.clks.filter (dueC t)).map (bornC t h.here)).filter fun j => decide (j.needs ≠ [])).length + m ≤ 120
    rw [List.filter_append]
    have e : (((h.clks.filter (dueC t)).map (bornC t h.here)).filter fun j => decide (j.needs ≠ [])) = [] := by
      rw [List.filter_eq_nil_iff]
      intro j hj
      obtain ⟨c, _, rfl⟩ := List.mem_map.mp hj
      simp [bornC]
    rw [e, List.append_nil]
    exact g.needy
theorem Good.clock {n m : Nat} {h : HouseS} (g : Good (n + 1) m h) {rank first every many tries : Int} {steps : List Str} (hs : steps ≠ []) (hsr : ∀ s ∈ steps, ∃ r, h.row s = some r) (hsl : steps.length ≤ 5) (ht : 1 ≤ tries ∧ tries ≤ 9) (hf : h.here ≤ first) (hev : 1 ≤ every) (hma : 1 ≤ many ∧ many ≤ 99) :
    Good n m (h.clock rank steps first every many tries) := by
  have g1 := g.note (.tuple [S' "clock", I' rank, .tuple (steps.map .str), I' first, I' every, I' many, I' tries])
  have hpot := g.pot
  have ok2 : HouseOk { h.note (.tuple [S' "clock", I' rank, .tuple (steps.map .str), I' first, I' every, I' many, I' tries]) with clks := h.clks ++ [(⟨rank, steps, tries, first, every, many⟩ : ClockS)] } := by
    refine ⟨g1.ok.rows, g1.ok.jobs, g1.ok.cnt, g1.ok.nums, g1.ok.held, g1.ok.staff, g1.ok.pause, g1.ok.needy, ⟨g1.ok.sizes.1, g1.ok.sizes.2.1, g1.ok.sizes.2.2.1, ?_, g1.ok.sizes.2.2.2.2⟩, g1.ok.alive, fun c hc => ?_, ?_⟩
    · show (h.clks ++ [_]).length ≤ _
      rw [List.length_append, List.length_singleton]
      omega
    · rcases List.mem_append.mp hc with z | z
      · exact g1.ok.clks c z
      · rw [List.mem_singleton.mp z]
        exact ⟨hs, hsr, hsl, ht, hev⟩
    · show h.jobs.length + (h.clks ++ [_]).length + ((h.clks ++ [(⟨rank, steps, tries, first, every, many⟩ : ClockS)]).map fun c => c.left.toNat).sum ≤ _
      rw [List.length_append, List.length_singleton, List.map_append, List.sum_append]
      simp only [List.map_cons, List.map_nil, List.sum_cons, List.sum_nil]
      omega
  have cc := strike_clock ok2 (t := h.here) fun c hc hl => by
    rcases List.mem_append.mp hc with z | z
    · exact Int.le_of_lt (g1.ti.clock c z hl)
    · rw [List.mem_singleton.mp z]
      exact hf
  have ok3 := ok2.strike h.here
  have e : h.clock rank steps first every many tries = HouseS.strike { h.note (.tuple [S' "clock", I' rank, .tuple (steps.map .str), I' first, I' every, I' many, I' tries]) with clks := h.clks ++ [(⟨rank, steps, tries, first, every, many⟩ : ClockS)] } h.here := rfl
  rw [e]
  have bs := bump_sum h.here (h.clks ++ [(⟨rank, steps, tries, first, every, many⟩ : ClockS)])
  rw [strike_eq] at cc ok3 ⊢
  refine ⟨ok3, ⟨g1.ti.lease, cc, g1.ti.hold⟩, g1.log, g1.cnt, g1.ticks, g1.staff, ?_, ?_, g1.hold, g1.age, g1.here, g1.names, g1.kinds⟩
  · show (h.jobs ++ ((h.clks ++ [(⟨rank, steps, tries, first, every, many⟩ : ClockS)]).filter (dueC h.here)).map (bornC h.here h.here)).length + ((h.clks ++ [(⟨rank, steps, tries, first, every, many⟩ : ClockS)]).map (bumpC h.here)).length + (((h.clks ++ [(⟨rank, steps, tries, first, every, many⟩ : ClockS)]).map (bumpC h.here)).map fun c => c.left.toNat).sum + 101 * n ≤ _
    rw [List.length_append, List.length_map, List.length_map]
    have e1 : ((h.clks ++ [(⟨rank, steps, tries, first, every, many⟩ : ClockS)]).map fun c => c.left.toNat).sum = (h.clks.map fun c => c.left.toNat).sum + many.toNat := by
      rw [List.map_append, List.sum_append]
      simp
    rw [e1] at bs
    rw [List.length_append, List.length_singleton]
    omega
  · show ((h.jobs ++ ((h.clks ++ [(⟨rank, steps, tries, first, every, many⟩ : ClockS)]).filter (dueC h.here)).map (bornC h.here h.here)).filter fun j => decide (j.needs ≠ [])).length + m ≤ 120
    rw [List.filter_append]
    have e2 : ((((h.clks ++ [(⟨rank, steps, tries, first, every, many⟩ : ClockS)]).filter (dueC h.here)).map (bornC h.here h.here)).filter fun j => decide (j.needs ≠ [])) = [] := by
      rw [List.filter_eq_nil_iff]
      intro j hj
      obtain ⟨c, _, rfl⟩ := List.mem_map.mp hj
      simp [bornC]
    rw [e2, List.append_nil]
    exact g.needy
/-! ### turn -/
/-- as Good, the leases and clocks aside -/
structure Fair (n m : Nat) (h : HouseS) : Prop where
  ok : HouseOk h
  log : h.log.length + n ≤ 1000000
  cnt : h.cnt.length + n ≤ 999999
  ticks : ∀ r ∈ h.rows, r.ticks.length + n ≤ 1000000
  staff : h.staff.length + n ≤ 1000000
  pot : h.jobs.length + h.clks.length + (h.clks.map fun c => c.left.toNat).sum + 101 * n ≤ 900000
  needy : (h.jobs.filter fun j => decide (j.needs ≠ [])).length + m ≤ 120
  hold : 1 ≤ h.hold ∧ h.hold ≤ 99
  age : 0 ≤ h.age ∧ h.age ≤ 99
  names : ∀ s ∈ h.staff, isName s.1 = true
  kinds : ∀ r ∈ h.rows, isName r.kind = true
theorem Good.fair {n m : Nat} {h : HouseS} (g : Good n m h) : Fair n m h := ⟨g.ok, g.log, g.cnt, g.ticks, g.staff, g.pot, g.needy, g.hold, g.age, g.names, g.kinds⟩
theorem Fair.good {n m : Nat} {h : HouseS} (g : Fair n m h) (ti : Timely h) (hh : 0 ≤ h.here ∧ h.here ≤ 99999) : Good n m h := ⟨g.ok, ti, g.log, g.cnt, g.ticks, g.staff, g.pot, g.needy, g.hold, g.age, hh, g.names, g.kinds⟩
theorem Fair.here {n m : Nat} {h : HouseS} (g : Fair n m h) (t : Int) : Fair n m { h with here := t } := ⟨g.ok.here t, g.log, g.cnt, g.ticks, g.staff, g.pot, g.needy, g.hold, g.age, g.names, g.kinds⟩
theorem Fair.failOne {n m : Nat} {h : HouseS} (g : Fair n m h) {l : LeaseS} (hl : l ∈ h.cnt) : Fair n m (h.failOne l) := by
  obtain ⟨j, ej, _⟩ := lease_jobS g.ok hl
  have ok := g.ok.failOne hl
  unfold HouseS.failOne at ok ⊢
  rw [close_rest ej] at ok ⊢
  refine ⟨ok, g.log, ?_, rowUp_ticks (p := fun r => r.ticks.length + n ≤ 1000000) g.ticks fun r h => h, g.staff, ?_, ?_, g.hold, g.age, g.names, rowUp_ticks (p := fun r => isName r.kind = true) g.kinds fun r h => h⟩
  · have := g.cnt
    have h2 := List.length_filter_le (fun o : LeaseS => decide (o.num ≠ l.num)) h.cnt
    show (h.cnt.filter fun o => decide (o.num ≠ l.num)).length + n ≤ _
    omega
  · show (h.jobs.set l.work _).length + h.clks.length + _ + 101 * n ≤ _
    rw [List.length_set]
    exact g.pot
  · show ((h.jobs.set l.work _).filter fun j => decide (j.needs ≠ [])).length + m ≤ 120
    rw [filter_set_len (y := j.stepFailed h.here h.pause) _ ej (by rw [(stepFailed_steps _ _ _).2])]
    exact g.needy
theorem Fair.strike {n m : Nat} {h : HouseS} (g : Fair n m h) (t : Int) : Fair n m (h.strike t) := by
  have ok := g.ok.strike t
  have hs := bump_sum t h.clks
  rw [strike_eq] at ok ⊢
  refine ⟨ok, g.log, g.cnt, g.ticks, g.staff, ?_, ?_, g.hold, g.age, g.names, g.kinds⟩
  · show (h.jobs ++ (h.clks.filter (dueC t)).map (bornC t h.here)).length + (h.clks.map (bumpC t)).length + ((h.clks.map (bumpC t)).map fun c => c.left.toNat).sum + 101 * n ≤ _
    rw [List.length_append, List.length_map, List.length_map]
    have := g.pot
    omega
  · show ((h.jobs ++ (h.clks.filter (dueC t)).map (bornC t h.here)).filter fun j => decide (j.needs ≠ [])).length + m ≤ 120
    rw [List.filter_append]
    have e : (((h.clks.filter (dueC t)).map (bornC t h.here)).filter fun j => decide (j.needs ≠ [])) = [] := by
      rw [List.filter_eq_nil_iff]
      intro j hj
      obtain ⟨c, _, rfl⟩ := List.mem_map.mp hj
      simp [bornC]
    rw [e, List.append_nil]
    exact g.needy
theorem fold_fair {n m : Nat} (t : Int) : ∀ (ls : List LeaseS) (h : HouseS), Fair n m h → (∀ l ∈ ls, l ∈ h.cnt) → (ls.map (·.num)).Nodup → Fair n m (ls.foldl (overAt t) h)
  | [], h, g, _, _ => g
  | l :: ls, h, g, hm, nd => by
    rw [List.map_cons, List.nodup_cons] at nd
    rw [List.foldl_cons]
    have hl := hm l List.mem_cons_self
    by_cases ht : l.til = t
    · have e : overAt t h l = h.failOne l := by unfold overAt; rw [if_pos ht]
      rw [e]
      refine fold_fair t ls _ (g.failOne hl) (fun o ho => ?_) nd.2
      rw [(failOne_rest g.ok hl).1]
      refine List.mem_filter.mpr ⟨hm o (List.mem_cons_of_mem _ ho), ?_⟩
      have : o.num ≠ l.num := fun z => nd.1 (by rw [← z]; exact List.mem_map_of_mem ho)
      simpa using this
    · have e : overAt t h l = h := by unfold overAt; rw [if_neg ht]
      rw [e]
      exact fold_fair t ls h g (fun o ho => hm o (List.mem_cons_of_mem _ ho)) nd.2
theorem Fair.turnTo {n m : Nat} {h : HouseS} (g : Fair n m h) (t : Int) : Fair n m (h.turnTo t) := by
  have g1 := g.here t
  exact (fold_fair t (HouseS.byNum { h with here := t }) _ g1 (fun l hl => (byNum_mem _ l).mp hl) (byNum_nodup g1.ok)).strike t
theorem turnIn_good {n m : Nat} {tick : Int} (h9 : tick ≤ 99999) : ∀ (f : Nat) (h : HouseS), Fair n m h → Timely h → 0 ≤ h.here → h.here ≤ tick → (tick - h.here).toNat ≤ f → Good n m (HouseS.turnIn tick f h)
  | 0, h, g, ti, h0, hle, hf => by
    have e : h.here = tick := by omega
    have : HouseS.turnIn tick 0 h = h := by
      show { h with here := tick } = h
      rw [← e]
    rw [this]
    exact g.good ti (by omega)
  | f + 1, h, g, ti, h0, hle, hf => by
    unfold HouseS.turnIn
    have last : (∀ t, HouseS.minOf h.nextTicks = some t → ¬ t ≤ tick) → Good n m { h with here := tick } := fun hn => by
      have hall : ∀ a ∈ h.nextTicks, tick < a := fun a ha => by
        obtain ⟨t, ht⟩ := minOf_some (l := h.nextTicks) fun z => by rw [z] at ha; cases ha
        have h1 := (minOf_spec ht).2 a ha
        have h2 := hn t ht
        omega
      refine (g.here tick).good ⟨fun l hl => hall _ ?_, fun c hc hl => hall _ ?_, ti.hold⟩ (by show 0 ≤ tick ∧ tick ≤ 99999; omega)
      · unfold HouseS.nextTicks
        exact List.mem_append_left _ (List.mem_map.mpr ⟨l, hl, rfl⟩)
      · unfold HouseS.nextTicks
        exact List.mem_append_right _ (List.mem_map.mpr ⟨c, List.mem_filter.mpr ⟨hc, decide_eq_true hl⟩, rfl⟩)
    cases em : HouseS.minOf h.nextTicks with
    | none => exact last fun t z => by rw [em] at z; cases z
    | some t =>
      simp only
      obtain ⟨ok1, ti1, e1, lt⟩ := turnTo_ok g.ok ti em
      by_cases hle2 : t ≤ tick
      · rw [if_pos hle2]
        exact turnIn_good h9 f _ (g.turnTo t) ti1 (by omega) (by omega) (by omega)
      · rw [if_neg hle2]
        exact last fun u z => by
          rw [em] at z
          rw [← Option.some.inj z]
          exact hle2
theorem Good.turn {n m : Nat} {h : HouseS} (g : Good (n + 1) m h) {tick : Int} (ht : h.here ≤ tick ∧ tick ≤ 99999) : Good n m (h.turn tick) := by
  have g1 := g.note (.tuple [S' "turn", I' tick])
  exact turnIn_good ht.2 _ _ g1.fair g1.ti g.here.1 ht.1 (Nat.le_refl _)
theorem good_new {l : List PlanG} (ok : PlanOk l) {hold pause hands age : Int} (h1 : 1 ≤ hold ∧ hold ≤ 99) (h2 : 1 ≤ pause ∧ pause ≤ 99) (h4 : 0 ≤ age ∧ age ≤ 99) : Good 8900 120 (newHouse l hold pause hands age) := by
  have hl := ok.len
  have hr : ∀ r ∈ l.map planRow, r.ticks = [] ∧ isName r.kind = true := fun r hr => by
    obtain ⟨p, hp, rfl⟩ := List.mem_map.mp hr
    exact ⟨rfl, (ok.row p hp).1⟩
  have nd : ((l.map planRow).map (·.kind)).Nodup := by
    rw [List.map_map]
    exact ok.nd
  refine ⟨⟨nd, (fun i j e => nomatch e), (fun o ho => nomatch ho), List.nodup_nil, (fun i j q e => nomatch e), List.nodup_nil, by show 0 ≤ pause ∧ pause ≤ 999; omega, by show 0 ≤ 120; omega, ⟨by show 0 ≤ 1000000; omega, by show 0 ≤ 1000000; omega, by show 0 ≤ 1000000; omega, by show 0 ≤ 1000000; omega, by show 0 ≤ 1000000; omega, ?_, fun r h => ?_⟩, (fun i j e => nomatch e), (fun c hc => nomatch hc), by show 0 ≤ 900000; omega⟩,
    ⟨(fun o ho => nomatch ho), (fun c hc => nomatch hc), h1.1⟩, by show 0 + 8900 ≤ 1000000; omega, by show 0 + 8900 ≤ 999999; omega, fun r h => ?_, by show 0 + 8900 ≤ 1000000; omega, by show 0 + 0 + 0 + 101 * 8900 ≤ 900000; omega, by show 0 + 120 ≤ 120; omega, h1, h4, by show (0 : Int) ≤ 0 ∧ (0 : Int) ≤ 99999; omega, (fun s hs => nomatch hs), fun r h => (hr r h).2⟩
  · show (l.map planRow).length ≤ 8
    rw [List.length_map]
    omega
  · rw [(hr r h).1]
    simp
  · rw [(hr r h).1]
    simp
end LH
end

section
set_option Elab.async false
set_option linter.all false
set_option maxRecDepth 100000
set_option maxHeartbeats 4000000
/-! a law's own heap: a house, the law's own things, what stood before -/
namespace LH
open PySem PySem.Spec PyProof.Rows L2 StX LamX
abbrev Cells := List (Addr × (HO → Prop))
/-- nothing but a table stood there -/
def Fresh0 (H0 : Hp) (a : Addr) : Prop := ∀ o, H0 a = some o → ∃ ps, o = .tbl ps
theorem Fresh0.of {H0 H : Hp} {a : Addr} (old : ∀ o, H0 a = some o → (∀ ps, o ≠ .tbl ps) → H a = some o) (ha : H a = none) : Fresh0 H0 a := fun o e => by
  cases o with
  | tbl ps => exact ⟨ps, rfl⟩
  | _ =>
    have := old _ e (fun _ z => nomatch z)
    rw [ha] at this
    cases this
/-- no house: H0 is what stood at first, F the law's own things -/
structure LB (K : PySem.W.Frag) (H0 H : Hp) (F : Cells) : Prop where
  tabs : Tabs (TT K) H
  old : ∀ c o, H0 c = some o → (∀ ps, o ≠ .tbl ps) → H c = some o
  fr : ∀ q ∈ F, Fresh0 H0 q.1 ∧ ∃ o, H q.1 = some o ∧ q.2 o ∧ (∀ ps, o ≠ .tbl ps)
  nd : (F.map (·.1)).Nodup
structure LS (K : PySem.W.Frag) (H0 H : Hp) (G : HG) (n m : Nat) (F : Cells) : Prop where
  at_ : HouseAt K H G
  tabs : Tabs (TT K) H
  good : Good n m G.er
  old : ∀ c o, H0 c = some o → (∀ ps, o ≠ .tbl ps) → H c = some o ∧ c ∉ adr G
  fr : ∀ q ∈ F, Fresh0 H0 q.1 ∧ q.1 ∉ adr G ∧ ∃ o, H q.1 = some o ∧ q.2 o ∧ (∀ ps, o ≠ .tbl ps)
  nd : (F.map (·.1)).Nodup
section
variable {P : Program} {w : World} {K : PySem.W.Frag} {mg : Str → Option Value} {base : Heap} {H0 H H' : Hp} {G G' : HG} {n m n' m' : Nat} {F : Cells}
theorem tabs_same {H H' : Hp} (s : Same H H') {T : List (Addr × Str)} (t : Tabs T H) : Tabs T H' := t.ext s
theorem LB.same (s : LB K H0 H F) (e : Same H H') : LB K H0 H' F :=
  ⟨tabs_same e s.tabs, fun c o h1 h2 => e _ _ (s.old c o h1 h2), fun q hq => let ⟨a, o, h1, h2⟩ := s.fr q hq; ⟨a, o, e _ _ h1, h2⟩, s.nd⟩
theorem LS.same (s : LS K H0 H G n m F) (e : Same H H') : LS K H0 H' G n m F :=
  ⟨s.at_.same e, tabs_same e s.tabs, s.good, fun c o h1 h2 => let ⟨a, b⟩ := s.old c o h1 h2; ⟨e _ _ a, b⟩, fun q hq => let ⟨a, b, o, h1, h2⟩ := s.fr q hq; ⟨a, b, o, e _ _ h1, h2⟩, s.nd⟩
theorem LB.start (t : Tabs (TT K) H) : LB K H H [] := ⟨t, fun c o h _ => h, (fun q hq => nomatch hq), List.nodup_nil⟩
theorem LB.extN (s : LB K H0 H F) : ExtN H0 H := fun c o h1 h2 => s.old c o h1 h2
theorem LS.extN (s : LS K H0 H G n m F) : ExtN H0 H := fun c o h1 h2 => (s.old c o h1 h2).1
/-- the house did something -/
theorem LS.step (s : LS K H0 H G n m F) (st : Stp K H G H' G') (g : Good n' m' G'.er) : LS K H0 H' G' n' m' F :=
  ⟨st.at_, st.fr.tabs s.tabs, g, fun c o h1 h2 => let ⟨a, b⟩ := s.old c o h1 h2; st.fr.keep c o a h2 b, fun q hq => by
    obtain ⟨a, b, o, h1, h2, h3⟩ := s.fr q hq
    obtain ⟨e, d⟩ := st.fr.keep _ _ h1 h3 b
    exact ⟨a, d, o, e, h2, h3⟩, s.nd⟩
theorem LS.keepT (s : LS K H0 H G n m F) (st : Stp K H G H' G') : KeepT K H H' := st.fr.keepT s.at_
theorem LS.less (s : LS K H0 H G n m F) (hn : n' ≤ n) (hm : m' ≤ m) : LS K H0 H G n' m' F := ⟨s.at_, s.tabs, s.good.less hn hm, s.old, s.fr, s.nd⟩
/-- what stood keeps standing, but the tables, and some cells -/
def FrW (W : List Addr) (H H' : Hp) : Prop := ∀ c o, c ∉ W → H c = some o → (∀ ps, o ≠ .tbl ps) → H' c = some o
theorem FrW.refl {W : List Addr} : FrW W H H := fun _ _ _ e _ => e
theorem FrW.same {W : List Addr} (e : Same H H') : FrW W H H' := fun c o _ h _ => e c o h
theorem FrW.trans {W : List Addr} {H2 : Hp} (a : FrW W H H') (b : FrW W H' H2) : FrW W H H2 := fun c o n e t => b c o n (a c o n e t) t
theorem FrW.more {W W' : List Addr} (a : FrW W H H') (h : ∀ c ∈ W, c ∈ W') : FrW W' H H' := fun c o n e t => a c o (fun z => n (h c z)) e t
theorem FrW.keepT {W : List Addr} (a : FrW W H H') (hw : ∀ c ∈ W, ∃ o, H c = some o ∧ Wr o) : KeepT K H H' := KeepT.mk2 (fun b xs e => a b _ (fun z => by
    obtain ⟨o, e2, wo⟩ := hw b z
    rw [e] at e2
    rw [← Option.some.inj e2] at wo
    exact wo) e (fun _ z => nomatch z)) fun b o xs e => a b _ (fun z => by
    obtain ⟨o2, e2, wo⟩ := hw b z
    rw [e] at e2
    rw [← Option.some.inj e2] at wo
    exact wo) e (fun _ z => nomatch z)
/-- the law's own cells change -/
theorem LB.cells (s : LB K H0 H F) {W : List Addr} (a : FrW W H H') (t : Tabs (TT K) H') (hW : ∀ c ∈ W, c ∈ F.map (·.1)) (hc : ∀ q ∈ F, q.1 ∈ W → ∃ o, H' q.1 = some o ∧ q.2 o ∧ (∀ ps, o ≠ .tbl ps)) : LB K H0 H' F := by
  refine ⟨t, fun c o h1 h2 => a c o (fun z => ?_) (s.old c o h1 h2) h2, fun q hq => ?_, s.nd⟩
  · obtain ⟨q, hq, e⟩ := List.mem_map.mp (hW c z)
    obtain ⟨ps, z2⟩ := (s.fr q hq).1 o (by rw [e]; exact h1)
    exact h2 ps z2
  · obtain ⟨z, o, h1, h2, h3⟩ := s.fr q hq
    refine ⟨z, ?_⟩
    by_cases m : q.1 ∈ W
    · exact hc q hq m
    · exact ⟨o, a _ o m h1 h3, h2, h3⟩
theorem LS.cells (s : LS K H0 H G n m F) {W : List Addr} (a : FrW W H H') (t : Tabs (TT K) H') (hW : ∀ c ∈ W, c ∈ F.map (·.1)) (hw : ∀ c ∈ W, ∃ o, H c = some o ∧ Wr o) (hc : ∀ q ∈ F, q.1 ∈ W → ∃ o, H' q.1 = some o ∧ q.2 o ∧ (∀ ps, o ≠ .tbl ps)) : LS K H0 H' G n m F := by
  have out : ∀ c ∈ adr G, c ∉ W := fun c hc z => by
    obtain ⟨q, hq, e⟩ := List.mem_map.mp (hW c z)
    exact (s.fr q hq).2.1 (by rw [e]; exact hc)
  refine ⟨s.at_.mono (fun b hb o e => a b o (out b hb) e fun ps z => ?_) (a.keepT hw), t, s.good, fun c o h1 h2 => ?_, fun q hq => ?_, s.nd⟩
  · obtain ⟨u, e2, w2⟩ := s.at_.wr hb
    rw [e] at e2
    rw [← Option.some.inj e2, z] at w2
    exact w2
  · obtain ⟨h3, h4⟩ := s.old c o h1 h2
    refine ⟨a c o (fun z => ?_) h3 h2, h4⟩
    obtain ⟨q, hq, e⟩ := List.mem_map.mp (hW c z)
    obtain ⟨ps, z2⟩ := (s.fr q hq).1 o (by rw [e]; exact h1)
    exact h2 ps z2
  · obtain ⟨z, y, o, h1, h2, h3⟩ := s.fr q hq
    refine ⟨z, y, ?_⟩
    by_cases m : q.1 ∈ W
    · exact hc q hq m
    · exact ⟨o, a _ o m h1 h3, h2, h3⟩
/-- a new thing of the law's own -/
theorem LB.new (s : LB K H0 H F) {a : Addr} {o : HO} {p : HO → Prop} (ha : H a = none) (hp : p o) (ho : ∀ ps, o ≠ .tbl ps) : LB K H0 (upd H a o) ((a, p) :: F) := by
  have s1 := s.same (same_new (o := o) ha)
  refine ⟨s1.tabs, s1.old, fun q hq => ?_, ?_⟩
  · rcases List.mem_cons.mp hq with z | z
    · rw [z]
      exact ⟨Fresh0.of (fun o h1 h2 => s.old a o h1 h2) ha, o, upd_same, hp, ho⟩
    · exact s1.fr q z
  · rw [List.map_cons, List.nodup_cons]
    refine ⟨fun z => ?_, s.nd⟩
    obtain ⟨q, hq, e⟩ := List.mem_map.mp z
    obtain ⟨_, o2, e2, _⟩ := s.fr q hq
    rw [e, ha] at e2
    cases e2
theorem LS.new (s : LS K H0 H G n m F) {a : Addr} {o : HO} {p : HO → Prop} (ha : H a = none) (hp : p o) (ho : ∀ ps, o ≠ .tbl ps) : LS K H0 (upd H a o) G n m ((a, p) :: F) := by
  have s1 := s.same (same_new (o := o) ha)
  refine ⟨s1.at_, s1.tabs, s1.good, s1.old, fun q hq => ?_, ?_⟩
  · rcases List.mem_cons.mp hq with z | z
    · rw [z]
      exact ⟨Fresh0.of (fun o h1 h2 => (s.old a o h1 h2).1) ha, s.at_.outN ha, o, upd_same, hp, ho⟩
    · exact s1.fr q z
  · rw [List.map_cons, List.nodup_cons]
    refine ⟨fun z => ?_, s.nd⟩
    obtain ⟨q, hq, e⟩ := List.mem_map.mp z
    obtain ⟨_, _, o2, e2, _⟩ := s.fr q hq
    rw [e, ha] at e2
    cases e2
theorem LS.drop1 {q : Addr × (HO → Prop)} (s : LS K H0 H G n m (q :: F)) : LS K H0 H G n m F := ⟨s.at_, s.tabs, s.good, s.old, fun r hr => s.fr r (List.mem_cons_of_mem _ hr), by have := s.nd; rw [List.map_cons, List.nodup_cons] at this; exact this.2⟩
theorem LB.drop1 {q : Addr × (HO → Prop)} (s : LB K H0 H (q :: F)) : LB K H0 H F := ⟨s.tabs, s.old, fun r hr => s.fr r (List.mem_cons_of_mem _ hr), by have := s.nd; rw [List.map_cons, List.nodup_cons] at this; exact this.2⟩
/-! ### the calls -/
variable {Q : VK} {E : XK}
theorem LS.hm (s : LS K H0 H G n m F) {k : Str} {R : Prop} (hk : (houseFs G).lookup k = none) (q : R) : ∃ a dx fs, V.ref G.p = .ref a ∧ H a = some (.ins (cH K) dx fs) ∧ fs.lookup k = none ∧ R := LH.hm s.at_ hk q
theorem staff_er {x : Str} (h : ∃ s, (G.er.staff.find? fun s => decide (s.1 = x)) = some s) : ∃ z, (G.staff.find? fun l => decide (l.name = x)) = some z := by
  obtain ⟨s, e⟩ := h
  unfold HG.er at e
  simp only at e
  rw [find_map] at e
  cases ez : G.staff.find? fun l => decide (l.name = x) with
  | none => rw [ez] at e; cases e
  | some z => exact ⟨z, rfl⟩
theorem staff_er0 {x : Str} (h : (G.er.staff.find? fun s => decide (s.1 = x)) = none) : (G.staff.find? fun l => decide (l.name = x)) = none := by
  unfold HG.er at h
  simp only at h
  rw [find_map] at h
  cases ez : G.staff.find? fun l => decide (l.name = x) with
  | none => rfl
  | some z => rw [ez] at h; cases h
/-- a worker is there -/
def HouseS.has (h : HouseS) (x : Str) : Prop := ∃ s, (h.staff.find? fun s => decide (s.1 = x)) = some s
theorem has_name {h : HouseS} (g : Good n m h) {x : Str} (hx : h.has x) : isName x = true := by
  obtain ⟨s, e⟩ := hx
  have h1 := g.names s (List.mem_of_find?_eq_some e)
  have h2 : s.1 = x := by simpa using List.find?_some e
  rw [← h2]
  exact h1
theorem row_name {h : HouseS} (g : Good n m h) {k : Str} {r : RowS} (hr : h.row k = some r) : isName k = true := by
  have h1 := g.kinds r (List.mem_of_find?_eq_some hr)
  have h2 : r.kind = k := by simpa using List.find?_some hr
  rw [← h2]
  exact h1
theorem LS.turn (s : LS K H0 H G (n + 1) m F) {tick : Int} (ht : G.er.here ≤ tick ∧ tick ≤ 99999) (q : ∀ H' G', LS K H0 H' G' n m F → G'.p = G.p → KeepT K H H' → G'.er = G.er.turn tick → Q .non H') : sp_House_turn K [.ref G.p, .int tick] H Q E := by
  unfold sp_House_turn
  have hl := s.good.log
  rw [er_log_len] at hl
  exact ⟨G, tick, rfl, s.at_, s.good.ok, s.good.ti, s.tabs, ht, by omega, fun H' G' st e => q H' G' (s.step st (by rw [e]; exact s.good.turn ht)) st.p (s.keepT st) e⟩
theorem LS.take (s : LS K H0 H G (n + 1) m F) {x : Str} (hx : G.er.has x) (q : ∀ H' G' v, LS K H0 H' G' n m F → G'.p = G.p → KeepT K H H' → G'.er = (G.er.take x).2 → Dt K H' v (G.er.take x).1 → Q v H') : sp_House_take K [.ref G.p, .str x] H Q E := by
  unfold sp_House_take
  have hl := s.good.log
  have hc := s.good.cnt
  rw [er_log_len] at hl
  rw [er_cnt_len] at hc
  obtain ⟨z, hz⟩ := staff_er hx
  have ha := s.good.age
  exact ⟨G, x, z, rfl, s.at_, s.good.ok, by show G.er.age ≤ _; omega, s.tabs, has_name s.good hx, hz, by omega, by omega, fun H' G' v st e d => q H' G' v (s.step st (by rw [e]; exact s.good.take x)) st.p (s.keepT st) e d⟩
theorem LS.done (s : LS K H0 H G (n + 1) m F) {k : Nat} (hk : k < G.er.given) (q : ∀ H' G', LS K H0 H' G' n m F → G'.p = G.p → KeepT K H H' → G'.er = (G.er.done k).2 → Q (.bl (G.er.done k).1) H') : sp_House_done K [.ref G.p, .int (k : Int)] H Q E := by
  unfold sp_House_done
  have hl := s.good.log
  rw [er_log_len] at hl
  exact ⟨G, k, rfl, s.at_, s.good.ok, hk, by omega, fun H' G' st e => q H' G' (s.step st (by rw [e]; exact s.good.done k)) st.p (s.keepT st) e⟩
theorem LS.fail (s : LS K H0 H G (n + 1) m F) {k : Nat} (hk : k < G.er.given) (q : ∀ H' G', LS K H0 H' G' n m F → G'.p = G.p → KeepT K H H' → G'.er = (G.er.fail k).2 → Q (.bl (G.er.fail k).1) H') : sp_House_fail K [.ref G.p, .int (k : Int)] H Q E := by
  unfold sp_House_fail
  have hl := s.good.log
  rw [er_log_len] at hl
  exact ⟨G, k, rfl, s.at_, s.good.ok, hk, by omega, fun H' G' st e => q H' G' (s.step st (by rw [e]; exact s.good.fail k)) st.p (s.keepT st) e⟩
theorem LS.beat (s : LS K H0 H G (n + 1) m F) {k : Nat} (hk : k < G.er.given) (q : ∀ H' G', LS K H0 H' G' n m F → G'.p = G.p → KeepT K H H' → G'.er = (G.er.beat k).2 → Q (.bl (G.er.beat k).1) H') : sp_House_beat K [.ref G.p, .int (k : Int)] H Q E := by
  unfold sp_House_beat
  have hl := s.good.log
  rw [er_log_len] at hl
  exact ⟨G, k, rfl, s.at_, s.good.ok, hk, by omega, fun H' G' st e => q H' G' (s.step st (by rw [e]; exact s.good.beat k)) st.p (s.keepT st) e⟩
theorem LS.tell (s : LS K H0 H G (n + 1) m F) {k : Nat} {z : Int} (hk : k < G.er.given) (hz : 0 ≤ z ∧ z ≤ 100) (q : ∀ H' G', LS K H0 H' G' n m F → G'.p = G.p → KeepT K H H' → G'.er = (G.er.tell k z).2 → Q (.bl (G.er.tell k z).1) H') : sp_House_tell K [.ref G.p, .int (k : Int), .int z] H Q E := by
  unfold sp_House_tell
  have hl := s.good.log
  rw [er_log_len] at hl
  exact ⟨G, k, z, rfl, s.at_, s.good.ok, hk, hz, by omega, fun H' G' st e => q H' G' (s.step st (by rw [e]; exact s.good.tell k z)) st.p (s.keepT st) e⟩
theorem job_er {k : Nat} (hk : k < G.er.jobs.length) : ∃ g, G.jobs[k]? = some g := by
  rw [er_len] at hk
  exact ⟨_, List.getElem?_eq_getElem hk⟩
theorem LS.again (s : LS K H0 H G (n + 1) m F) {k : Nat} (hk : k < G.er.jobs.length) (q : ∀ H' G', LS K H0 H' G' n m F → G'.p = G.p → KeepT K H H' → G'.er = (G.er.again k).2 → Q (.bl (G.er.again k).1) H') : sp_House_again K [.ref G.p, .int (k : Int)] H Q E := by
  unfold sp_House_again
  have hl := s.good.log
  rw [er_log_len] at hl
  obtain ⟨g, eg⟩ := job_er hk
  exact ⟨G, k, g, rfl, s.at_, eg, by omega, fun H' G' st e => q H' G' (s.step st (by rw [e]; exact s.good.again k)) st.p (s.keepT st) e⟩
theorem LS.drop (s : LS K H0 H G (n + 1) m F) {k : Nat} (hk : k < G.er.jobs.length) (q : ∀ H' G', LS K H0 H' G' n m F → G'.p = G.p → KeepT K H H' → G'.er = (G.er.drop k).2 → Q (.bl (G.er.drop k).1) H') : sp_House_drop K [.ref G.p, .int (k : Int)] H Q E := by
  unfold sp_House_drop
  have hl := s.good.log
  rw [er_log_len] at hl
  obtain ⟨g, eg⟩ := job_er hk
  exact ⟨G, k, g, rfl, s.at_, s.good.ok, eg, by omega, fun H' G' st e => q H' G' (s.step st (by rw [e]; exact s.good.drop k)) st.p (s.keepT st) e⟩
theorem LS.leave (s : LS K H0 H G (n + 1) m F) {x : Str} (hx : G.er.has x) (q : ∀ H' G', LS K H0 H' G' n m F → G'.p = G.p → KeepT K H H' → G'.er = G.er.leave x → Q .non H') : sp_House_leave K [.ref G.p, .str x] H Q E := by
  unfold sp_House_leave
  have hl := s.good.log
  rw [er_log_len] at hl
  obtain ⟨z, hz⟩ := staff_er hx
  exact ⟨G, x, z, rfl, s.at_, s.good.ok, has_name s.good hx, hz, by omega, fun H' G' st e => q H' G' (s.step st (by rw [e]; exact s.good.leave x)) st.p (s.keepT st) e⟩
theorem LS.join (s : LS K H0 H G (n + 1) m F) {x : Str} {t : Addr} {ks : List Str} (hx : isName x = true) (hn : (G.er.staff.find? fun s => decide (s.1 = x)) = none) (ht : SqT K H t (vstrs ks)) (hk : ks ≠ []) (hkl : ks.length ≤ 1000) (hkn : ks.Nodup) (hks : ∀ k ∈ ks, ∃ r, G.er.row k = some r)
    (q : ∀ H' G', LS K H0 H' G' n m F → G'.p = G.p → KeepT K H H' → G'.er = G.er.join x ks → Q .non H') : sp_House_join K [.ref G.p, .str x, .ref t] H Q E := by
  unfold sp_House_join
  have hl := s.good.log
  have hs := s.good.staff
  rw [er_log_len] at hl
  have hs2 : G.er.staff.length = G.staff.length := by simp [HG.er]
  exact ⟨G, x, t, ks, rfl, s.at_, hx, staff_er0 hn, ht, hk, hkl, hkn, fun k h => by
    obtain ⟨r, hr⟩ := hks k h
    exact ⟨row_name s.good hr, r, hr⟩, by omega, by omega, fun H' G' st e => q H' G' (s.step st (by rw [e]; exact s.good.join hx hn ks)) st.p (s.keepT st) e⟩
theorem LS.limit (s : LS K H0 H G (n + 1) m F) {k : Str} {most rate : Int} (hk : ∃ r, G.er.row k = some r) (h1 : 1 ≤ most ∧ most ≤ 9) (h2 : 1 ≤ rate ∧ rate ≤ 99) (q : ∀ H' G', LS K H0 H' G' n m F → G'.p = G.p → KeepT K H H' → G'.er = G.er.limit k most rate → Q .non H') : sp_House_limit K [.ref G.p, .str k, .int most, .int rate] H Q E := by
  unfold sp_House_limit
  have hl := s.good.log
  rw [er_log_len] at hl
  obtain ⟨r, hr⟩ := hk
  exact ⟨G, k, r, most, rate, rfl, s.at_, s.good.ok.rows, row_name s.good hr, hr, h1, h2, by omega, fun H' G' st e => q H' G' (s.step st (by rw [e]; exact s.good.limit k most rate)) st.p (s.keepT st) e⟩
theorem LS.add {z : Nat} (s : LS K H0 H G (n + 1) (m + z) F) {rank time tries : Int} {t u : Addr} {steps : List Str} {needs : List Nat} (h1 : 0 ≤ rank ∧ rank ≤ 9) (h2 : 0 ≤ time ∧ time ≤ 99999) (ht : SqT K H t (vstrs steps)) (hs : 1 ≤ steps.length ∧ steps.length ≤ 5) (hsk : ∀ x ∈ steps, ∃ r, G.er.row x = some r)
    (hu : SqT K H u (vnats needs)) (hn : needs.length ≤ 6) (hp : needs.Pairwise (· < ·)) (hj : ∀ k ∈ needs, k < G.er.jobs.length) (h3 : 1 ≤ tries ∧ tries ≤ 9) (hz : needs = [] ∨ 1 ≤ z)
    (q : ∀ H' G', LS K H0 H' G' n m F → G'.p = G.p → KeepT K H H' → G'.er = G.er.add rank time steps needs tries → Q (.int (G.er.jobs.length : Int)) H') : sp_House_add K [.ref G.p, .int rank, .int time, .ref t, .ref u, .int tries] H Q E := by
  unfold sp_House_add
  have hl := s.good.log
  have hpot := s.good.pot
  rw [er_log_len] at hl
  rw [er_len] at hpot hj
  refine ⟨G, rank, time, tries, t, u, steps, needs, rfl, s.at_, by omega, by omega, h1, h2, ht, hs, fun x hx => by
    obtain ⟨r, hr⟩ := hsk x hx
    exact ⟨row_name s.good hr, r, hr⟩, hu, hn, hp, hj, h3, fun H' G' st e => ?_⟩
  have := q H' G' (s.step st (by
    rw [e]
    exact s.good.add (List.length_pos_iff.mp (by omega)) hsk (fun k hk => by rw [er_len]; exact hj k hk) hn hs.2 h3 hz)) st.p (s.keepT st) e
  rw [er_len] at this
  exact this
theorem LS.clock (s : LS K H0 H G (n + 1) m F) {rank first every many tries : Int} {t : Addr} {steps : List Str} (h1 : 0 ≤ rank ∧ rank ≤ 9) (ht : SqT K H t (vstrs steps)) (hs : 1 ≤ steps.length ∧ steps.length ≤ 5) (hsk : ∀ x ∈ steps, ∃ r, G.er.row x = some r) (h2 : G.er.here ≤ first ∧ first ≤ 99999) (h4 : 1 ≤ every ∧ every ≤ 999) (h5 : 1 ≤ many ∧ many ≤ 99) (h3 : 1 ≤ tries ∧ tries ≤ 9)
    (q : ∀ H' G', LS K H0 H' G' n m F → G'.p = G.p → KeepT K H H' → G'.er = G.er.clock rank steps first every many tries → Q (.int (G.er.clks.length : Int)) H') : sp_House_clock K [.ref G.p, .int rank, .ref t, .int first, .int every, .int many, .int tries] H Q E := by
  unfold sp_House_clock
  have hl := s.good.log
  have hpot := s.good.pot
  rw [er_log_len] at hl
  rw [er_len, er_clks_len] at hpot
  refine ⟨G, rank, first, every, many, tries, t, steps, rfl, s.at_, by omega, by omega, h1, ht, hs, fun x hx => by
    obtain ⟨r, hr⟩ := hsk x hx
    exact ⟨row_name s.good hr, r, hr⟩, h2, h4, h5, h3, fun H' G' st e => ?_⟩
  have := q H' G' (s.step st (by
    rw [e]
    exact s.good.clock (List.length_pos_iff.mp (by omega)) hsk hs.2 h3 h2.1 h4.1 h5)) st.p (s.keepT st) e
  rw [er_clks_len] at this
  exact this
theorem LS.state (s : LS K H0 H G n m F) {k : Nat} (hk : k < G.er.jobs.length) (q : ∀ H' v, LS K H0 H' G n m F → Same H H' → Dt K H' v (G.er.state k) → Q v H') : sp_House_state K [.ref G.p, .int (k : Int)] H Q E := by
  obtain ⟨g, eg⟩ := job_er hk
  exact state_ok s.at_ s.good.ok eg fun H' v e d => q H' v (s.same e) e d
theorem LS.progress (s : LS K H0 H G n m F) {k : Nat} (hk : k < G.er.jobs.length) (q : ∀ H' v, LS K H0 H' G n m F → Same H H' → Dt K H' v (G.er.progress k) → Q v H') : sp_House_progress K [.ref G.p, .int (k : Int)] H Q E := by
  unfold sp_House_progress
  obtain ⟨g, eg⟩ := job_er hk
  exact ⟨G, k, g, rfl, s.at_, eg, fun H' v e d => q H' v (s.same e) e d⟩
theorem LS.why (s : LS K H0 H G n m F) {x : Str} {k : Nat} (hx : G.er.has x) (hk : k < G.er.jobs.length) (q : ∀ H' G' v, LS K H0 H' G' n m F → G'.p = G.p → KeepT K H H' → G'.er = (G.er.why x k).2 → Dt K H' v (G.er.why x k).1 → Q v H') : sp_House_why K [.ref G.p, .str x, .int (k : Int)] H Q E := by
  unfold sp_House_why
  obtain ⟨g, eg⟩ := job_er hk
  obtain ⟨z, hz⟩ := staff_er hx
  exact ⟨G, x, z, k, g, rfl, s.at_, s.good.ok, has_name s.good hx, hz, eg, fun H' G' v st e d => q H' G' v (s.step st (by rw [e]; exact s.good.why x k)) st.p (s.keepT st) e d⟩
theorem LS.due (s : LS K H0 H G n m F) (q : ∀ H', LS K H0 H' G n m F → Same H H' → Q (optI G.er.nextDue) H') : sp_House_next_due K [.ref G.p] H Q E :=
  due_ok s.at_ s.good.ok fun H' e => q H' (s.same e) e
theorem LS.limits (s : LS K H0 H G n m F) {k : Str} (hk : ∃ r, G.er.row k = some r) (q : ∀ H' G' v, LS K H0 H' G' n m F → G'.p = G.p → KeepT K H H' → G'.er = (G.er.limitsOf k).2 → Dt K H' v (G.er.limitsOf k).1 → Q v H') : sp_House_limits_of K [.ref G.p, .str k] H Q E := by
  unfold sp_House_limits_of
  obtain ⟨r, hr⟩ := hk
  exact ⟨G, k, r, rfl, s.at_, s.good.ok, row_name s.good hr, hr, fun H' G' v st e d => q H' G' v (s.step st (by rw [e]; exact s.good.limitsOf k)) st.p (s.keepT st) e d⟩
theorem LS.queue (s : LS K H0 H G n m F) {k : Str} (hk : ∃ r, G.er.row k = some r) (q : ∀ H' t, LS K H0 H' G n m F → KeepT K H H' → t ∉ adr G → H' t = some (.lst (vnats (G.er.queue k))) → Q (.ref t) H') : sp_House_queue K [.ref G.p, .str k] H Q E := by
  unfold sp_House_queue
  obtain ⟨r, hr⟩ := hk
  have ha := s.good.age
  exact ⟨G, k, r, rfl, s.at_, s.good.ok, by show G.er.age ≤ _; omega, s.tabs, row_name s.good hr, hr, fun H' t st nt et => q H' t (s.step st s.good) (s.keepT st) nt et⟩
theorem LS.leases (s : LS K H0 H G n m F) (q : ∀ H' t zs ds, LS K H0 H' G n m F → Same H H' → H' t = some (.lst zs) → G.er.leases = .list ds → Dts K H' zs ds → Q (.ref t) H') : sp_House_leases K [.ref G.p] H Q E := by
  unfold sp_House_leases
  have hc := s.good.cnt
  rw [er_cnt_len] at hc
  exact ⟨G, rfl, s.at_, by omega, fun H' t zs ds e et el d => q H' t zs ds (s.same e) e et el d⟩
theorem LS.workers (s : LS K H0 H G n m F) (q : ∀ H' t zs ds, LS K H0 H' G n m F → Same H H' → H' t = some (.lst zs) → G.er.workers = .list ds → Dts K H' zs ds → Q (.ref t) H') : sp_House_workers K [.ref G.p] H Q E := by
  unfold sp_House_workers
  exact ⟨G, rfl, s.at_, s.good.ok, fun H' t zs ds e et el d => q H' t zs ds (s.same e) e et el d⟩
/-- a house is made -/
theorem LB.house (s : LB K H0 H F) {x dx t : Addr} {l : List PlanG} {hold pause hands age : Int} (hx0 : Fresh0 H0 x) (hxF : ∀ q ∈ F, q.1 ≠ x) (hx : H x = some (.ins (cH K) dx [])) (hp : PlanAt K H t l) (ok : PlanOk l) (h1 : 1 ≤ hold ∧ hold ≤ 99) (h2 : 1 ≤ pause ∧ pause ≤ 99) (h3 : 1 ≤ hands ∧ hands ≤ 9) (h4 : 0 ≤ age ∧ age ≤ 99)
    (q : ∀ H' G', LS K H0 H' G' 8900 120 F → G'.p = x → KeepT K H H' → G'.er = newHouse l hold pause hands age → Q .non H') : sp_House___init__ K [.ref x, .ref t, .int hold, .int pause, .int hands, .int age] H Q E := by
  unfold sp_House___init__
  refine ⟨x, dx, t, l, hold, pause, hands, age, rfl, hx, hp, ok, h1, h2, h3, h4, fun H' G' hg ep hk er => ?_⟩
  have kt : KeepT K H H' := SameX.tup hx fun b o hb e => (hk b o hb e).1
  have tabs : Tabs (TT K) H' := fun p hp => by
    obtain ⟨ps, e1, e2, e3⟩ := s.tabs p hp
    have ne : ∀ {b : Addr} {o : HO}, H b = some o → (∀ C d fs, o ≠ .ins C d fs) → b ≠ x := fun {b o} e n z => by
      rw [z, hx] at e
      exact n _ _ _ (Option.some.inj e).symm
    refine ⟨ps, (hk _ _ (ne e1 fun _ _ _ z => nomatch z) e1).1, e2, fun pos cv hc => ?_⟩
    obtain ⟨c, e4, e5⟩ := e3 pos cv hc
    exact ⟨c, e4, (hk _ _ (ne e5 fun _ _ _ z => nomatch z) e5).1⟩
  refine q H' G' ⟨hg, tabs, by rw [er]; exact good_new ok h1 h2 h4, fun c o e1 e2 => ?_, fun r hr => ?_, s.nd⟩ ep kt er
  · exact hk c o (fun z => by
      obtain ⟨ps, z2⟩ := hx0 o (by rw [← z]; exact e1)
      exact e2 ps z2) (s.old c o e1 e2)
  · obtain ⟨a, o, e1, e2, e3⟩ := s.fr r hr
    obtain ⟨b, c⟩ := hk r.1 o (hxF r hr) e1
    exact ⟨a, c, o, b, e2, e3⟩
end
end LH
end

section
set_option Elab.async false
set_option linter.all false
set_option maxRecDepth 100000
set_option maxHeartbeats 4000000
set_option pp.maxSteps 1500
namespace LH
open PySem PySem.Spec PyProof.Rows L2 StX LamX
variable {P : Program} {w : World} {K : PySem.W.Frag} {mg : Str → Option Value} {base : Heap}
/-! ### draws -/
def boxC (l : Addr) (o : HO) : Prop := ∃ r : Int, o = .lst [.ref l, .int r]
def drawC (o : HO) : Prop := ∃ ns : List Int, o = .lst (vints ns) ∧ ns.length ≤ 1000
/-- the box of draws at b, its numbers at l -/
structure BoxAt (H : Hp) (b l : Addr) : Prop where
  box : ∃ r : Int, H b = some (.lst [.ref l, .int r])
  nums : ∃ ns : List Int, H l = some (.lst (vints ns)) ∧ ns.length ≤ 1000
  ne : b ≠ l
@[irreducible] def sp__law_begun (K : PySem.W.Frag) : Sp := fun vs H Q E => ∃ (a : Addr) (ns : List Int), vs = [.ref a] ∧ SqL K H a (vints ns) ∧ ns.length ≤ 63 ∧ ∀ H' b l r, Same H H' → H b = none → H l = none → b ≠ l → H' b = some (.lst [.ref l, .int r]) → H' l = some (.lst (vints ns)) → Q (.ref b) H'
theorem sc__law_begun : FnScope ["_law_script", "_law_stirred", "_law_cell"] ["_law_script"] (defScope s__law_begun) := ⟨rfl, rfl, rfl, by decide +kernel, rfl, by decide +kernel, by decide +kernel⟩
theorem Tp.ok__law_begun (T : Tp P w K mg base) : FnR P w K mg base (L2.CX P w) (0 + 1) (He.ga K "_law_begun") (sp__law_begun K) := by
  refine fnr (N := ["_law_script", "_law_stirred", "_law_cell"]) (ps := ["_law_script"]) (k := 0) T.fd__law_begun sc__law_begun (fun _ _ _ _ _ _ us hl => match us, hl with | [_], _ => rfl) (fun vs H Q E h => ?_) fun cdv A outer s H vs Q E hr h => ?_
  · unfold sp__law_begun at h
    obtain ⟨_, _, rfl, _⟩ := h
    rfl
  unfold sp__law_begun at h
  obtain ⟨a, ns, rfl, ha, hl, q⟩ := h
  refine ⟨_, (pss_cons (ps_set (i := 1) sc__law_begun.nd rfl (by first | exact .inl rfl | exact .inr rfl) pe_int)
      (pss_cons (ps_for passOwnE rfl (pi_list (pv 0)) (pg_name (i := 2) sc__law_begun.nd rfl (by first | exact .inl rfl | exact .inr rfl)) (pss_one (ps_set (i := 1) sc__law_begun.nd rfl (by first | exact .inl rfl | exact .inr rfl) (pe_op op_mod (pe_op op_add (pe_op op_add (pe_op op_mul (pv 1) pe_int) (pe_op op_mul (pv 2) pe_int)) pe_int) pe_int))))
      (pss_one (ps_ret (pe_lst (pa_cons (pe_callTy call_list_of rfl T.f_list bt_list (pa_cons (pv 0) pa_nil)) (pa_cons (pe_op op_mul (pv 1) (pe_callTy call_int1 rfl T.f_int bt_int (pa_cons (pe_cmpR op_gt (pe_callB call_len_seq rfl T.f_len bt_len (pa_cons (pv 0) pa_nil)) pe_int (nomark _)) pa_nil))) pa_nil))))))), ?_⟩
  refine ⟨_, rfl, a, rfl, ⟨_, ha⟩, for_list (xs := vints ns) (fun i σ H' => H' = H ∧ ∃ (r : Int) (x : Option V), (0 ≤ r ∧ r < 2147483647) ∧ σ = [some (.ref a), some (.int r), x]) ⟨rfl, 0, _, by omega, rfl⟩ ?_ ?_ ?_⟩
  · rintro i σ H' _ ⟨rfl, _⟩
    exact ha
  · rintro i v σ H' ev ⟨rfl, r, x, hr1, rfl⟩
    obtain ⟨c, hc, rfl⟩ : ∃ c, c ∈ ns ∧ V.int c = v := by
      obtain ⟨c, hc, e⟩ := List.mem_map.mp (List.mem_of_getElem? ev)
      exact ⟨c, hc, e⟩
    refine ⟨_, rfl, _, _, rfl, rfl, .inr ⟨by decide, by decide⟩, _, rfl, _, _, rfl, rfl, .inr ⟨by decide, by decide⟩, _, _, rfl, rfl, _, _, rfl, rfl, _, _, rfl, rfl, by show (0 : Int) < 2147483647; decide, ?_⟩
    exact ⟨rfl, _, _, ⟨Int.emod_nonneg _ (by decide), Int.emod_lt_of_pos _ (by decide)⟩, rfl⟩
  · rintro σ H' ⟨rfl, r, x, hr1, rfl⟩
    refine ⟨_, rfl, a, _, rfl, .inl ha, fun l hl' => ?_⟩
    refine ⟨_, rfl, _, rfl, a, _, rfl, .inl (sqL_same ha (same_new hl')), _, _, rfl, rfl, ?_⟩
    have hb : ∀ k : Int, (r * k = r * k) := fun _ => rfl
    refine .inr ⟨_, rfl, _, _, rfl, rfl, .inl ⟨by omega, by omega⟩, by show 2 ≤ sizeLine; decide, fun b hb => ?_⟩
    have hne : b ≠ l := fun z => by rw [z, upd_same] at hb; cases hb
    exact q _ b l _ (Same.trans' (same_new hl') (same_new hb)) (none_same (same_new hl') hb) hl' hne upd_same ((upd_ne hne.symm).trans upd_same)
theorem ix0 {x : V} {xs : List V} : ixN (x :: xs).length 0 = some 0 := by
  unfold ixN
  simp
theorem at0 {x : V} {xs : List V} : atI (x :: xs) 0 = some x := atI_nat (j := 0) rfl
/-- some cells change, the rest stands, the tables too -/
structure Frw (K : PySem.W.Frag) (W : List Addr) (H H' : Hp) : Prop where
  fr : FrW W H H'
  tabs : Tabs (TT K) H → Tabs (TT K) H'
theorem Frw.refl {W : List Addr} {H : Hp} : Frw K W H H := ⟨.refl, fun t => t⟩
theorem Frw.same {W : List Addr} {H H' : Hp} (e : Same H H') : Frw K W H H' := ⟨.same e, fun t => tabs_same e t⟩
theorem Frw.trans {W : List Addr} {H H1 H2 : Hp} (a : Frw K W H H1) (b : Frw K W H1 H2) : Frw K W H H2 := ⟨a.fr.trans b.fr, fun t => b.tabs (a.tabs t)⟩
theorem Frw.upd {W : List Addr} {H : Hp} {c : Addr} {o u : HO} (hc : c ∈ W) (h : H c = some u) (w : Wr u) : Frw K W H (upd H c o) := ⟨fun d x hd e _ => (upd_ne fun z => hd (by rw [z]; exact hc)).trans e, fun t => tabs_upd h w t⟩
theorem Frw.more {W W' : List Addr} {H H' : Hp} (a : Frw K W H H') (h : ∀ c ∈ W, c ∈ W') : Frw K W' H H' := ⟨a.fr.more h, a.tabs⟩
/-- a draw: some number below many -/
@[irreducible] def sp__law_take (K : PySem.W.Frag) : Sp := fun vs H Q E => ∃ (b l : Addr) (many : Int), vs = [.ref b, .int many] ∧ BoxAt H b l ∧ (0 < many ∧ many < 2 ^ 100) ∧ ∀ H' i, Frw K [b, l] H H' → BoxAt H' b l → 0 ≤ i → i < many → Q (.int i) H'
theorem sc__law_take : FnScope ["_law_box", "_law_many", "_law_drawn"] ["_law_box", "_law_many"] (defScope s__law_take) := ⟨rfl, rfl, rfl, by decide +kernel, rfl, by decide +kernel, by decide +kernel⟩
theorem Tp.ok__law_take (T : Tp P w K mg base) : FnR P w K mg base (L2.CX P w) (0 + 1) (He.ga K "_law_take") (sp__law_take K) := by
  refine fnr (N := ["_law_box", "_law_many", "_law_drawn"]) (ps := ["_law_box", "_law_many"]) (k := 0) T.fd__law_take sc__law_take (fun _ _ _ _ _ _ us hl => match us, hl with | [_, _], _ => rfl) (fun vs H Q E h => ?_) fun cdv A outer s H vs Q E hr h => ?_
  · unfold sp__law_take at h
    obtain ⟨_, _, _, rfl, _⟩ := h
    rfl
  unfold sp__law_take at h
  obtain ⟨b, l, many, rfl, hx, hm, q⟩ := h
  refine ⟨_, (pss_cons (ps_if (pt_cmpR (op_eqD hr.units) (pe_ix ix_list (pv 0) pe_int (fun _ _ => rfl)) (pe_lst pa_nil) (nomark _)) (pss_cons (ps_asg (pe_op op_mod (pe_op op_mul (pe_ix ix_list (pv 0) pe_int (fun _ _ => rfl)) pe_int) pe_int) (pg_sub (pv 0) pe_int set_list))
      (pss_one (ps_ret (pe_op op_mod (pe_op op_fdiv (pe_ix ix_list (pv 0) pe_int (fun _ _ => rfl)) pe_int) (pv 1))))) pss_nil)
      (pss_cons (ps_set (i := 2) sc__law_take.nd rfl (by first | exact .inl rfl | exact .inr rfl) (pe_ix ix_list (pe_ix ix_list (pv 0) pe_int (fun _ _ => rfl)) pe_int (fun _ _ => rfl)))
      (pss_cons (ps_asg (pe_op op_fdivW (pv 2) (pv 1)) (pg_sub (pe_ix ix_list (pv 0) pe_int (fun _ _ => rfl)) pe_int set_list))
      (pss_cons (ps_if (PW.pt (pw_or (pt_cmpR op_eq (pe_ix ix_list (pe_ix ix_list (pv 0) pe_int (fun _ _ => rfl)) pe_int (fun _ _ => rfl)) pe_int (nomark _)) (pw_or1 (pt_cmpR op_eq (pe_ix ix_list (pe_ix ix_list (pv 0) pe_int (fun _ _ => rfl)) pe_int (fun _ _ => rfl)) (pe_un un_neg pe_int) (nomark _))))) (pss_one (ps_expr (pe_bm PySem.F.plainAttrs_list PySem.F.slot_list_pop PySem.F.type_list_pop mt_popAt (pe_ix ix_list (pv 0) pe_int (fun _ _ => rfl)) (pa_cons pe_int pa_nil)))) pss_nil)
      (pss_one (ps_ret (pe_op op_mod (pv 2) (pv 1)))))))), ?_⟩
  obtain ⟨r, eb⟩ := hx.box
  obtain ⟨ns, el, hl⟩ := hx.nums
  have hne := hx.ne
  refine ⟨_, rfl, b, _, 0, _, rfl, rfl, SqL.of eb, rfl, by show 0 ≤ sizeLine; decide, fun e he => ?_⟩
  have s1 := same_new (o := .lst []) he
  have f1 : Frw K [b, l] H (upd H e (.lst [])) := .same s1
  refine ⟨_, _, dp_ints (s1 _ _ el), .lst (SqL.of upd_same) .nil, shaped_ints ns, by decide +kernel, _, rfl, ?_⟩
  rw [eqv_ints0]
  have eb1 := s1 _ _ eb
  have el1 := s1 _ _ el
  generalize upd H e (.lst []) = H1 at f1 eb1 el1 ⊢
  by_cases hn : ns = []
  · refine dT hn ?_
    refine ⟨_, rfl, b, _, 1, _, rfl, rfl, SqL.of eb1, rfl, _, _, rfl, rfl, .inr ⟨by decide, by decide⟩, _, _, rfl, rfl, by show (0 : Int) < 2147483647; decide, ?_⟩
    refine ⟨_, rfl, b, _, 1, 1, rfl, rfl, eb1, by show ixN 2 1 = some 1; decide, ?_⟩
    have f2 := f1.trans (Frw.upd (K := K) (W := [b, l]) (o := .lst [.ref l, .int (r * 48271 % 2147483647)]) (by simp) eb1 trivial)
    refine ⟨_, rfl, b, _, 1, _, rfl, rfl, SqL.of upd_same, rfl, _, _, rfl, rfl, ⟨by decide, by decide⟩, _, rfl, _, _, rfl, rfl, hm.1, ?_⟩
    exact q _ _ f2 ⟨⟨_, upd_same⟩, ⟨ns, (upd_ne hne.symm).trans el1, hl⟩, hne⟩ (Int.emod_nonneg _ (by omega)) (Int.emod_lt_of_pos _ hm.1)
  · refine dF hn ?_
    obtain ⟨d, ns', rfl⟩ : ∃ d ns', ns = d :: ns' := by
      cases ns with
      | nil => exact absurd rfl hn
      | cons d ns' => exact ⟨d, ns', rfl⟩
    refine ⟨_, rfl, b, _, 0, _, rfl, rfl, SqL.of eb1, rfl, l, _, 0, _, rfl, rfl, SqL.of el1, at0, ?_⟩
    refine ⟨_, rfl, _, rfl, _, _, rfl, rfl, wide_div hm.1 (b := 100) (by omega) (by omega) (by omega), ?_⟩
    refine ⟨_, rfl, b, _, 0, _, rfl, rfl, SqL.of eb1, rfl, l, _, 0, 0, rfl, rfl, el1, ix0, ?_⟩
    have f2 := f1.trans (Frw.upd (K := K) (W := [b, l]) (o := .lst ((vints (d :: ns')).set 0 (.int (d / many)))) (by simp) el1 trivial)
    have eb2 : upd H1 l (.lst ((vints (d :: ns')).set 0 (.int (d / many)))) b = some (.lst [.ref l, .int r]) := (upd_ne hne).trans eb1
    have el2 : upd H1 l (.lst ((vints (d :: ns')).set 0 (.int (d / many)))) l = some (.lst (vints (d / many :: ns'))) := upd_same
    generalize upd H1 l (.lst ((vints (d :: ns')).set 0 (.int (d / many)))) = H2 at f2 eb2 el2 ⊢
    have last : ∀ H3 : Hp, Frw K [b, l] H H3 → BoxAt H3 b l → Q (.int (d % many)) H3 := fun H3 f b3 => q _ _ f b3 (Int.emod_nonneg _ (by omega)) (Int.emod_lt_of_pos _ hm.1)
    refine ⟨_, rfl, b, _, 0, _, rfl, rfl, SqL.of eb2, rfl, l, _, 0, _, rfl, rfl, SqL.of el2, at0, rfl, _, rfl, ?_⟩
    have pop : ∀ D : Prop, (∀ H3 : Hp, Frw K [b, l] H H3 → BoxAt H3 b l → D) → D := fun D h => h (upd H2 l (.lst ((vints (d / many :: ns')).eraseIdx 0))) (f2.trans (Frw.upd (K := K) (W := [b, l]) (by simp) el2 trivial)) ⟨⟨r, (upd_ne hne).trans eb2⟩, ⟨ns', upd_same, by simp at hl; omega⟩, hne⟩
    have fin1 := last _ (f2.trans (Frw.upd (K := K) (W := [b, l]) (o := .lst ((vints (d / many :: ns')).eraseIdx 0)) (by simp) el2 trivial)) ⟨⟨r, (upd_ne hne).trans eb2⟩, ⟨ns', upd_same, by simp at hl; omega⟩, hne⟩
    have fin0 := last H2 f2 ⟨⟨r, eb2⟩, ⟨_, el2, by simpa using hl⟩, hne⟩
    have go : ∀ (D : VK), (∀ v, Q (.int (d % many)) (upd H2 l (.lst ((vints (d / many :: ns')).eraseIdx 0))) → D v (upd H2 l (.lst ((vints (d / many :: ns')).eraseIdx 0)))) → rPopAt (.ref l) [.int 0] H2 D := fun D h => ⟨l, _, 0, 0, .int (d / many), rfl, rfl, el2, by decide, by decide, by simp [seqIndex?, vints], rfl, h _ fin1⟩
    by_cases h1 : d / many = 0
    · refine dT (by rw [h1]) (iteT ?_)
      refine ⟨_, rfl, b, _, 0, _, rfl, rfl, SqL.of eb2, rfl, .inl ⟨rfl, _, SqL.of el2⟩, go _ fun v hq => ?_⟩
      exact ⟨_, rfl, _, rfl, _, _, rfl, rfl, hm.1, hq⟩
    · refine dF (by simpa using h1) ?_
      refine ⟨_, rfl, b, _, 0, _, rfl, rfl, SqL.of eb2, rfl, l, _, 0, _, rfl, rfl, SqL.of el2, at0, _, rfl, rfl, _, rfl, ?_⟩
      by_cases h2 : d / many = -1
      · refine dT (by rw [h2]) ?_
        refine ⟨_, rfl, b, _, 0, _, rfl, rfl, SqL.of eb2, rfl, .inl ⟨rfl, _, SqL.of el2⟩, go _ fun v hq => ?_⟩
        exact ⟨_, rfl, _, rfl, _, _, rfl, rfl, hm.1, hq⟩
      · refine dF (by simpa using h2) ?_
        exact ⟨_, rfl, _, rfl, _, _, rfl, rfl, hm.1, fin0⟩
end LH
end

section
set_option Elab.async false
set_option linter.all false
set_option maxRecDepth 100000
set_option maxHeartbeats 4000000
set_option pp.maxSteps 1500
namespace LH
open PySem PySem.Spec PyProof.Rows L2 StX LamX
variable {P : Program} {w : World} {K : PySem.W.Frag} {mg : Str → Option Value} {base : Heap}
def tyn : PyData → String
  | .none => "NoneType"
  | .bool _ => "bool"
  | .int _ => "int"
  | .str _ => "str"
  | .list _ => "list"
  | .tuple _ => "tuple"
  | .dict _ => "dict"
theorem dp_ty {H : Hp} {v : V} {d : PyData} (h : Dp K H v d) : TyX K H v (.type (tyn d)) := by
  cases h with
  | non => exact .base .non
  | bl b => exact .base (.bl b)
  | int i => exact .base (.int i)
  | str x => exact .base (.str x)
  | lst h _ =>
    rcases h with (h | ⟨o, h⟩) | h
    · exact .base (.lst h)
    · exact .base (.frz h)
    · obtain ⟨o, its, n, h1, h2, _⟩ := h
      exact .kList h1 h2
  | tup h _ => exact tyx_tup h
theorem isiI {H : Hp} {v : V} {d : PyData} (h : Dp K H v d) {T : String} {b : Bool} (hb : kitB (tyn d) T = some b) {Q : VK} (q : Q (.bl b) H) : rIsi K [v, .ty T] H Q := ⟨_, _, _, _, b, rfl, .ty _, dp_ty h, kit_ty hb, q⟩
theorem dp_notnon {H : Hp} {v : V} {d : PyData} (h : Dp K H v d) (hd : d ≠ .none) : decide (v = V.non) = false := by
  cases h <;> simp at hd ⊢
mutual
/-- no list in it is too long -/
def small : PyData → Bool
  | .none | .bool _ | .int _ | .str _ | .dict _ => true
  | .list xs | .tuple xs => decide (xs.length ≤ 1000000) && smallAll xs
def smallAll : List PyData → Bool
  | [] => true
  | x :: xs => small x && smallAll xs
end
theorem small_at : ∀ {ds : List PyData} {i : Nat} {d : PyData}, smallAll ds = true → ds[i]? = some d → small d = true
  | [], i, d, _, e => by simp at e
  | x :: ds, 0, d, h, e => by
    unfold smallAll at h
    rw [← Option.some.inj e]
    exact (Bool.and_eq_true_iff.mp h).1
  | x :: ds, i + 1, d, h, e => by
    unfold smallAll at h
    exact small_at (ds := ds) (i := i) (Bool.and_eq_true_iff.mp h).2 (by simpa using e)
/-- of the same data at such a depth it tells True -/
@[irreducible] def sp__law_alike (D : Nat) (K : PySem.W.Frag) : Sp := fun vs H Q E => ∃ (v u : V) (d : PyData), vs = [v, u] ∧ Dp K H v d ∧ Dp K H u d ∧ d.depth ≤ D ∧ small d = true ∧ ∀ H', Same H H' → Q (.bl true) H'
theorem dpAll_len {H : Hp} : ∀ {vs : List V} {ds : List PyData}, DpAll K H vs ds → vs.length = ds.length
  | _, _, .nil => rfl
  | _, _, .cons _ t => by rw [List.length_cons, List.length_cons, dpAll_len t]
theorem dpAll_at {H : Hp} : ∀ {vs : List V} {ds : List PyData}, DpAll K H vs ds → ∀ {i : Nat} {d : PyData}, ds[i]? = some d → ∃ v, vs[i]? = some v ∧ Dp K H v d
  | _, _, .nil, i, d, e => by simp at e
  | _, _, .cons h t, 0, d, e => ⟨_, rfl, by rw [← Option.some.inj e]; exact h⟩
  | _, _, .cons h t, i + 1, d, e => dpAll_at t (by simpa using e)
theorem depth_at : ∀ {ds : List PyData} {i : Nat} {d : PyData}, ds[i]? = some d → d.depth ≤ PyData.depthAll ds
  | [], i, d, e => by simp at e
  | x :: ds, 0, d, e => by
    rw [← Option.some.inj e]
    simp only [PyData.depthAll]
    omega
  | x :: ds, i + 1, d, e => by
    have := depth_at (ds := ds) (i := i) (d := d) (by simpa using e)
    simp only [PyData.depthAll]
    omega
mutual
theorem dpSame {H H' : Hp} (s : Same H H') : ∀ {v : V} {d : PyData}, Dp K H v d → Dp K H' v d
  | _, _, .non => .non
  | _, _, .bl b => .bl b
  | _, _, .int i => .int i
  | _, _, .str x => .str x
  | _, _, .lst h hs => .lst (sqL_same h s) (dpAllSame s hs)
  | _, _, .tup h hs => .tup (KeepT.same s _ _ h) (dpAllSame s hs)
theorem dpAllSame {H H' : Hp} (s : Same H H') : ∀ {vs : List V} {ds : List PyData}, DpAll K H vs ds → DpAll K H' vs ds
  | _, _, .nil => .nil
  | _, _, .cons h t => .cons (dpSame s h) (dpAllSame s t)
end
theorem sc__law_alike : FnScope ["_law_found", "_law_due_here", "_law_k"] ["_law_found", "_law_due_here"] (defScope s__law_alike) := ⟨rfl, rfl, rfl, by decide +kernel, rfl, by decide +kernel, by decide +kernel⟩
theorem alike_lv (T : Tp P w K mg base) (D : Nat) (ih : FnR P w K mg base (L2.CX P w) D (He.ga K "_law_alike") (fun vs H Q E => 0 < D ∧ sp__law_alike (D - 1) K vs H Q E)) : FnR P w K mg base (L2.CX P w) (D + 1) (He.ga K "_law_alike") (sp__law_alike D K) := by
  refine fnr (N := ["_law_found", "_law_due_here", "_law_k"]) (ps := ["_law_found", "_law_due_here"]) (k := D) T.fd__law_alike sc__law_alike (fun _ _ _ _ _ _ us hl => match us, hl with | [_, _], _ => rfl) (fun vs H Q E h => ?_) fun cdv A outer s H vs Q E hr h => ?_
  · unfold sp__law_alike at h
    obtain ⟨_, _, _, rfl, _⟩ := h
    rfl
  unfold sp__law_alike at h
  obtain ⟨v, u, d, rfl, hv, hu, hd, hsm, q⟩ := h
  refine ⟨_, (pss_cons (ps_if (pt_cmpR op_isN (pv 1) pe_non (nomark _)) (pss_one (ps_ret (pe_cmpR op_isN (pv 0) pe_non (nomark _)))) pss_nil)
      (pss_cons (ps_if (pt_val (pe_callB call_isi rfl T.f_isinstance bt_isinstance (pa_cons (pv 1) (pa_cons (pe_ty rfl T.f_bool bt_bool) pa_nil)))) (pss_one (ps_ret (pe_and (pe_callB call_isi rfl T.f_isinstance bt_isinstance (pa_cons (pv 0) (pa_cons (pe_ty rfl T.f_bool bt_bool) pa_nil))) (pe_one (pe_cmpR op_eq (pv 0) (pv 1) (nomark _)))))) pss_nil)
      (pss_cons (ps_if (pt_val (pe_callB call_isi rfl T.f_isinstance bt_isinstance (pa_cons (pv 1) (pa_cons (pe_ty rfl T.f_int bt_int) pa_nil)))) (pss_one (ps_ret (pe_and (pe_callB call_isi rfl T.f_isinstance bt_isinstance (pa_cons (pv 0) (pa_cons (pe_ty rfl T.f_int bt_int) pa_nil))) (pe_and (pe_not (pe_callB call_isi rfl T.f_isinstance bt_isinstance (pa_cons (pv 0) (pa_cons (pe_ty rfl T.f_bool bt_bool) pa_nil)))) (pe_one (pe_cmpR op_eq (pv 0) (pv 1) (nomark _))))))) pss_nil)
      (pss_cons (ps_if (pt_val (pe_callB call_isi rfl T.f_isinstance bt_isinstance (pa_cons (pv 1) (pa_cons (pe_ty rfl T.f_str bt_str) pa_nil)))) (pss_one (ps_ret (pe_and (pe_callB call_isi rfl T.f_isinstance bt_isinstance (pa_cons (pv 0) (pa_cons (pe_ty rfl T.f_str bt_str) pa_nil))) (pe_one (pe_cmpR op_eq (pv 0) (pv 1) (nomark _)))))) pss_nil)
      (pss_cons (ps_if (PW.pt (pw_or (pt_cmpR op_ne (pe_callB call_isi rfl T.f_isinstance bt_isinstance (pa_cons (pv 1) (pa_cons (pe_ty rfl T.f_tuple bt_tuple) pa_nil))) (pe_callB call_isi rfl T.f_isinstance bt_isinstance (pa_cons (pv 0) (pa_cons (pe_ty rfl T.f_tuple bt_tuple) pa_nil))) (nomark _)) (pw_or1 (pt_cmpR op_ne (pe_callB call_isi rfl T.f_isinstance bt_isinstance (pa_cons (pv 1) (pa_cons (pe_ty rfl T.f_list bt_list) pa_nil))) (pe_callB call_isi rfl T.f_isinstance bt_isinstance (pa_cons (pv 0) (pa_cons (pe_ty rfl T.f_list bt_list) pa_nil))) (nomark _))))) (pss_one (ps_ret pe_bl)) pss_nil)
      (pss_cons (ps_if (pt_cmpR op_ne (pe_callB call_len_seq rfl T.f_len bt_len (pa_cons (pv 0) pa_nil)) (pe_callB call_len_seq rfl T.f_len bt_len (pa_cons (pv 1) pa_nil)) (nomark _)) (pss_one (ps_ret pe_bl)) pss_nil)
      (pss_cons (ps_for passOwnE rfl (pi_range1 rfl T.f_range (pa_cons (pe_callB call_len_seq rfl T.f_len bt_len (pa_cons (pv 1) pa_nil)) pa_nil)) (pg_name (i := 2) sc__law_alike.nd rfl (by first | exact .inl rfl | exact .inr rfl)) (pss_one (ps_if (pt_not (pt_val (pe_callP ih (rm hr) (kp_of T.fd__law_alike) rfl T.g__law_alike passE (pa_cons (pe_ix (ix_list.or ix_tup) (pv 0) (pv 2) (fun _ _ => rfl)) (pa_cons (pe_ix (ix_list.or ix_tup) (pv 1) (pv 2) (fun _ _ => rfl)) pa_nil))))) (pss_one (ps_ret pe_bl)) pss_nil)))
      (pss_one (ps_ret pe_bl))))))))), ?_⟩
  refine ⟨_, rfl, rfl, _, rfl, ?_⟩
  cases d with
  | none =>
    cases hu
    cases hv
    exact iteT ⟨_, rfl, rfl, q H Same.rfl'⟩
  | bool b =>
    cases hu
    cases hv
    refine iteF ⟨_, rfl, ⟨_, _, _, _, true, rfl, .ty _, dp_ty (Dp.bl b), kit_ty (a := "bool") (by decide +kernel), ⟨_, rfl, iteT ?_⟩⟩⟩
    refine ⟨_, rfl, ⟨_, _, _, _, true, rfl, .ty _, dp_ty (Dp.bl b), kit_ty (a := "bool") (by decide +kernel), ⟨_, rfl, iteT ?_⟩⟩⟩
    refine ⟨_, rfl, _, rfl, rfl, ?_⟩
    rw [decide_eq_true rfl]
    exact q H Same.rfl'
  | int i =>
    cases hu
    cases hv
    refine iteF ⟨_, rfl, ⟨_, _, _, _, false, rfl, .ty _, dp_ty (Dp.int i), kit_ty (a := "int") (by decide +kernel), ⟨_, rfl, iteF ?_⟩⟩⟩
    refine ⟨_, rfl, ⟨_, _, _, _, true, rfl, .ty _, dp_ty (Dp.int i), kit_ty (a := "int") (by decide +kernel), ⟨_, rfl, iteT ?_⟩⟩⟩
    refine ⟨_, rfl, ⟨_, _, _, _, true, rfl, .ty _, dp_ty (Dp.int i), kit_ty (a := "int") (by decide +kernel), ⟨_, rfl, iteT ?_⟩⟩⟩
    refine ⟨_, rfl, ⟨_, _, _, _, false, rfl, .ty _, dp_ty (Dp.int i), kit_ty (a := "int") (by decide +kernel), ⟨_, rfl, _, rfl, iteT ?_⟩⟩⟩
    refine ⟨_, rfl, _, rfl, rfl, ?_⟩
    rw [decide_eq_true rfl]
    exact q H Same.rfl'
  | str x =>
    cases hu
    cases hv
    refine iteF ⟨_, rfl, ⟨_, _, _, _, false, rfl, .ty _, dp_ty (Dp.str x), kit_ty (a := "str") (by decide +kernel), ⟨_, rfl, iteF ?_⟩⟩⟩
    refine ⟨_, rfl, ⟨_, _, _, _, false, rfl, .ty _, dp_ty (Dp.str x), kit_ty (a := "str") (by decide +kernel), ⟨_, rfl, iteF ?_⟩⟩⟩
    refine ⟨_, rfl, ⟨_, _, _, _, true, rfl, .ty _, dp_ty (Dp.str x), kit_ty (a := "str") (by decide +kernel), ⟨_, rfl, iteT ?_⟩⟩⟩
    refine ⟨_, rfl, ⟨_, _, _, _, true, rfl, .ty _, dp_ty (Dp.str x), kit_ty (a := "str") (by decide +kernel), ⟨_, rfl, iteT ?_⟩⟩⟩
    refine ⟨_, rfl, _, rfl, rfl, ?_⟩
    rw [decide_eq_true rfl]
    exact q H Same.rfl'
  | dict kvs => cases hu
  | list ds =>
    rw [dp_notnon hu (by simp)]
    refine iteF ⟨_, rfl, ⟨_, _, _, _, false, rfl, .ty _, dp_ty (hu), kit_ty (a := "list") (by decide +kernel), ⟨_, rfl, iteF ?_⟩⟩⟩
    refine ⟨_, rfl, ⟨_, _, _, _, false, rfl, .ty _, dp_ty (hu), kit_ty (a := "list") (by decide +kernel), ⟨_, rfl, iteF ?_⟩⟩⟩
    refine ⟨_, rfl, ⟨_, _, _, _, false, rfl, .ty _, dp_ty (hu), kit_ty (a := "list") (by decide +kernel), ⟨_, rfl, iteF ?_⟩⟩⟩
    refine ⟨_, rfl, ⟨_, _, _, _, false, rfl, .ty _, dp_ty (hu), kit_ty (a := "list") (by decide +kernel), ⟨_, rfl, ⟨_, _, _, _, false, rfl, .ty _, dp_ty (hv), kit_ty (a := "list") (by decide +kernel), ⟨rfl, _, rfl, iteF ?_⟩⟩⟩⟩⟩
    refine ⟨_, rfl, ⟨_, _, _, _, true, rfl, .ty _, dp_ty (hu), kit_ty (a := "list") (by decide +kernel), ⟨_, rfl, ⟨_, _, _, _, true, rfl, .ty _, dp_ty (hv), kit_ty (a := "list") (by decide +kernel), ⟨rfl, _, rfl, iteF ?_⟩⟩⟩⟩⟩
    cases hu with
    | lst h1 h2 =>
      cases hv with
      | lst h3 h4 =>
        rename_i a xs b ys
        have l1 := dpAll_len h2
        have l2 := dpAll_len h4
        unfold small at hsm
        obtain ⟨hsz, hsa⟩ := Bool.and_eq_true_iff.mp hsm
        have hsz := of_decide_eq_true hsz
        refine ⟨_, rfl, _, ys, rfl, .inl h3, _, rfl, _, xs, rfl, .inl h1, rfl, _, rfl, ?_⟩
        rw [l1, l2, decide_eq_true rfl]
        refine iteF ⟨_, rfl, _, xs, rfl, .inl h1, (xs.length : Int), rfl, by omega, by omega, ?_⟩
        rw [Int.toNat_natCast]
        refine for_range (n := xs.length) (fun i σ H' => Same H H' ∧ ∃ x, σ = [some (.ref b), some (.ref a), x]) ⟨Same.rfl', _, rfl⟩ ?_ ?_
        · rintro i σ H' hi ⟨s1, x, rfl⟩
          have hi2 : i < ds.length := by omega
          have ed : ds[i]? = some ds[i] := List.getElem?_eq_getElem hi2
          obtain ⟨x1, ex1, dx1⟩ := dpAll_at h2 ed
          obtain ⟨y1, ey1, dy1⟩ := dpAll_at h4 ed
          have hd2 := depth_at ed
          have hd3 : ds[i].depth + 1 ≤ D := by
            simp only [PyData.depth] at hd
            omega
          refine ⟨_, rfl, _, rfl, .inl ⟨_, ys, i, y1, rfl, by show V.int (0 + (i : Int)) = V.int i; rw [Int.zero_add], sqL_same h3 s1, atI_nat ey1, _, rfl, _, rfl, .inl ⟨_, xs, i, x1, rfl, by show V.int (0 + (i : Int)) = V.int i; rw [Int.zero_add], sqL_same h1 s1, atI_nat ex1, ?_⟩⟩⟩
          refine ⟨by omega, ?_⟩
          unfold sp__law_alike
          refine ⟨y1, x1, ds[i], rfl, dpSame s1 dy1, dpSame s1 dx1, by omega, small_at hsa ed, fun H2 s2 => ⟨_, rfl, iteF ?_⟩⟩
          exact ⟨Same.trans' s1 s2, _, rfl⟩
        · rintro σ H' ⟨s1, x, rfl⟩
          exact q H' s1
  | tuple ds =>
    rw [dp_notnon hu (by simp)]
    refine iteF ⟨_, rfl, ⟨_, _, _, _, false, rfl, .ty _, dp_ty (hu), kit_ty (a := "tuple") (by decide +kernel), ⟨_, rfl, iteF ?_⟩⟩⟩
    refine ⟨_, rfl, ⟨_, _, _, _, false, rfl, .ty _, dp_ty (hu), kit_ty (a := "tuple") (by decide +kernel), ⟨_, rfl, iteF ?_⟩⟩⟩
    refine ⟨_, rfl, ⟨_, _, _, _, false, rfl, .ty _, dp_ty (hu), kit_ty (a := "tuple") (by decide +kernel), ⟨_, rfl, iteF ?_⟩⟩⟩
    refine ⟨_, rfl, ⟨_, _, _, _, true, rfl, .ty _, dp_ty (hu), kit_ty (a := "tuple") (by decide +kernel), ⟨_, rfl, ⟨_, _, _, _, true, rfl, .ty _, dp_ty (hv), kit_ty (a := "tuple") (by decide +kernel), ⟨rfl, _, rfl, iteF ?_⟩⟩⟩⟩⟩
    refine ⟨_, rfl, ⟨_, _, _, _, false, rfl, .ty _, dp_ty (hu), kit_ty (a := "tuple") (by decide +kernel), ⟨_, rfl, ⟨_, _, _, _, false, rfl, .ty _, dp_ty (hv), kit_ty (a := "tuple") (by decide +kernel), ⟨rfl, _, rfl, iteF ?_⟩⟩⟩⟩⟩
    cases hu with
    | tup h1 h2 =>
      cases hv with
      | tup h3 h4 =>
        rename_i a xs b ys
        have l1 := dpAll_len h2
        have l2 := dpAll_len h4
        unfold small at hsm
        obtain ⟨hsz, hsa⟩ := Bool.and_eq_true_iff.mp hsm
        have hsz := of_decide_eq_true hsz
        refine ⟨_, rfl, _, ys, rfl, .inr h3, _, rfl, _, xs, rfl, .inr h1, rfl, _, rfl, ?_⟩
        rw [l1, l2, decide_eq_true rfl]
        refine iteF ⟨_, rfl, _, xs, rfl, .inr h1, (xs.length : Int), rfl, by omega, by omega, ?_⟩
        rw [Int.toNat_natCast]
        refine for_range (n := xs.length) (fun i σ H' => Same H H' ∧ ∃ x, σ = [some (.ref b), some (.ref a), x]) ⟨Same.rfl', _, rfl⟩ ?_ ?_
        · rintro i σ H' hi ⟨s1, x, rfl⟩
          have hi2 : i < ds.length := by omega
          have ed : ds[i]? = some ds[i] := List.getElem?_eq_getElem hi2
          obtain ⟨x1, ex1, dx1⟩ := dpAll_at h2 ed
          obtain ⟨y1, ey1, dy1⟩ := dpAll_at h4 ed
          have hd2 := depth_at ed
          have hd3 : ds[i].depth + 1 ≤ D := by
            simp only [PyData.depth] at hd
            omega
          refine ⟨_, rfl, _, rfl, .inr ⟨_, ys, i, y1, rfl, by show V.int (0 + (i : Int)) = V.int i; rw [Int.zero_add], KeepT.same s1 _ _ h3, atI_nat ey1, _, rfl, _, rfl, .inr ⟨_, xs, i, x1, rfl, by show V.int (0 + (i : Int)) = V.int i; rw [Int.zero_add], KeepT.same s1 _ _ h1, atI_nat ex1, ?_⟩⟩⟩
          refine ⟨by omega, ?_⟩
          unfold sp__law_alike
          refine ⟨y1, x1, ds[i], rfl, dpSame s1 dy1, dpSame s1 dx1, by omega, small_at hsa ed, fun H2 s2 => ⟨_, rfl, iteF ?_⟩⟩
          exact ⟨Same.trans' s1 s2, _, rfl⟩
        · rintro σ H' ⟨s1, x, rfl⟩
          exact q H' s1
theorem Tp.ok__law_alike (T : Tp P w K mg base) : ∀ D, FnR P w K mg base (L2.CX P w) (D + 1) (He.ga K "_law_alike") (sp__law_alike D K)
  | 0 => alike_lv T 0 fun A outer s H us vs Q E hr e0 r h => absurd h.1 (Nat.lt_irrefl 0)
  | D + 1 => alike_lv T (D + 1) ((Tp.ok__law_alike T D).imp fun vs H Q E h => h.2)
end LH
end

section
set_option Elab.async false
set_option linter.all false
set_option maxRecDepth 100000
set_option maxHeartbeats 4000000
namespace LH
open PySem PySem.Spec PyProof.Rows L2 StX LamX
variable {P : Program} {w : World} {K : PySem.W.Frag} {mg : Str → Option Value} {base : Heap}
def g_kb_add_tries {α : Type} (us mv ws : List α) : List α := (us ++ (ws.drop 0).take 1)
theorem Tp.kb_add_tries (T : Tp P w K mg base) : ∃ fd, FnOk P w K mg base (L2.CX P w) (2 + 1) (He.ma K (He.ga K "House") "add") fd ["self", "rank", "time", "steps", "needs", "tries"] (sp_House_add K) ∧ ∃ mv : List Value, KBn K fd ["self", "rank", "time", "steps", "needs", "tries"] 5 ["tries"] (fun us ws => g_kb_add_tries us mv ws) (fun vs zs => g_kb_add_tries vs [] zs) := by
  obtain ⟨fd, F⟩ := T.fd_House_add
  have e : He.DefD.kws K d_House_add = [(("tries" : Str), V.int 3)] := rfl
  refine ⟨fd, T.okF_House_add F, ?_⟩
  refine F.kbinds0 5 ["tries"] [] g_kb_add_tries (by rw [e]; simp) (fun q hq => by rw [e]; simp at hq ⊢) (fun r1 r2 r3 => (r1.append ((r3.drop 0).take 1))) fun D doc pm an cdv ct us mv ws l1 l2 l3 => ?_
  match us, mv, ws, l1, l2, l3 with
  | [u0, u1, u2, u3, u4], [], [w0], _, _, _ => exact rfl
def g_kb_add_0 {α : Type} (us mv ws : List α) : List α := (us ++ (mv.drop 0).take 1)
theorem Tp.kb_add_0 (T : Tp P w K mg base) : ∃ fd, FnOk P w K mg base (L2.CX P w) (2 + 1) (He.ma K (He.ga K "House") "add") fd ["self", "rank", "time", "steps", "needs", "tries"] (sp_House_add K) ∧ ∃ mv : List Value, KBn K fd ["self", "rank", "time", "steps", "needs", "tries"] 5 [] (fun us ws => g_kb_add_0 us mv ws) (fun vs zs => g_kb_add_0 vs [.int 3] zs) := by
  obtain ⟨fd, F⟩ := T.fd_House_add
  have e : He.DefD.kws K d_House_add = [(("tries" : Str), V.int 3)] := rfl
  refine ⟨fd, T.okF_House_add F, ?_⟩
  refine F.kbinds0 5 [] [("tries", V.int 3)] g_kb_add_0 (by rw [e]; simp) (fun q hq => by rw [e]; simp at hq ⊢; exact hq) (fun r1 r2 r3 => (r1.append ((r2.drop 0).take 1))) fun D doc pm an cdv ct us mv ws l1 l2 l3 => ?_
  match us, mv, ws, l1, l2, l3 with
  | [u0, u1, u2, u3, u4], [m0], [], _, _, _ => exact ⟨_, _, _, _, _, _, rfl, rfl, rfl⟩
def g_kb_clock_0 {α : Type} (us mv ws : List α) : List α := (us ++ (mv.drop 0).take 1)
theorem Tp.kb_clock_0 (T : Tp P w K mg base) : ∃ fd, FnOk P w K mg base (L2.CX P w) (3 + 1) (He.ma K (He.ga K "House") "clock") fd ["self", "rank", "steps", "first", "every", "many", "tries"] (sp_House_clock K) ∧ ∃ mv : List Value, KBn K fd ["self", "rank", "steps", "first", "every", "many", "tries"] 6 [] (fun us ws => g_kb_clock_0 us mv ws) (fun vs zs => g_kb_clock_0 vs [.int 3] zs) := by
  obtain ⟨fd, F⟩ := T.fd_House_clock
  have e : He.DefD.kws K d_House_clock = [(("tries" : Str), V.int 3)] := rfl
  refine ⟨fd, T.okF_House_clock F, ?_⟩
  refine F.kbinds0 6 [] [("tries", V.int 3)] g_kb_clock_0 (by rw [e]; simp) (fun q hq => by rw [e]; simp at hq ⊢; exact hq) (fun r1 r2 r3 => (r1.append ((r2.drop 0).take 1))) fun D doc pm an cdv ct us mv ws l1 l2 l3 => ?_
  match us, mv, ws, l1, l2, l3 with
  | [u0, u1, u2, u3, u4, u5], [m0], [], _, _, _ => exact ⟨_, _, _, _, _, _, rfl, rfl, rfl⟩
def g_kb_clock_tries {α : Type} (us mv ws : List α) : List α := (us ++ (ws.drop 0).take 1)
theorem Tp.kb_clock_tries (T : Tp P w K mg base) : ∃ fd, FnOk P w K mg base (L2.CX P w) (3 + 1) (He.ma K (He.ga K "House") "clock") fd ["self", "rank", "steps", "first", "every", "many", "tries"] (sp_House_clock K) ∧ ∃ mv : List Value, KBn K fd ["self", "rank", "steps", "first", "every", "many", "tries"] 6 ["tries"] (fun us ws => g_kb_clock_tries us mv ws) (fun vs zs => g_kb_clock_tries vs [] zs) := by
  obtain ⟨fd, F⟩ := T.fd_House_clock
  have e : He.DefD.kws K d_House_clock = [(("tries" : Str), V.int 3)] := rfl
  refine ⟨fd, T.okF_House_clock F, ?_⟩
  refine F.kbinds0 6 ["tries"] [] g_kb_clock_tries (by rw [e]; simp) (fun q hq => by rw [e]; simp at hq ⊢) (fun r1 r2 r3 => (r1.append ((r3.drop 0).take 1))) fun D doc pm an cdv ct us mv ws l1 l2 l3 => ?_
  match us, mv, ws, l1, l2, l3 with
  | [u0, u1, u2, u3, u4, u5], [], [w0], _, _, _ => exact rfl
def g_kb_House_hold_pause {α : Type} (us mv ws : List α) : List α := ((((us ++ (ws.drop 0).take 1) ++ (ws.drop 1).take 1) ++ (mv.drop 0).take 1) ++ (mv.drop 1).take 1)
theorem Tp.kb_House_hold_pause (T : Tp P w K mg base) : ∃ fd, FnOk P w K mg base (L2.CX P w) (4 + 1) (He.ma K (He.ga K "House") "__init__") fd ["self", "plan", "hold", "pause", "hands", "age"] (sp_House___init__ K) ∧ ∃ mv : List Value, KBn K fd ["self", "plan", "hold", "pause", "hands", "age"] 2 ["hold", "pause"] (fun us ws => g_kb_House_hold_pause us mv ws) (fun vs zs => g_kb_House_hold_pause vs [.int 1, .int 0] zs) := by
  obtain ⟨fd, F⟩ := T.fd_House___init__
  have e : He.DefD.kws K d_House___init__ = [(("hold" : Str), V.int 10), (("pause" : Str), V.int 2), (("hands" : Str), V.int 1), (("age" : Str), V.int 0)] := rfl
  refine ⟨fd, T.okF_House___init__ F, ?_⟩
  refine F.kbinds0 2 ["hold", "pause"] [("hands", V.int 1), ("age", V.int 0)] g_kb_House_hold_pause (by rw [e]; simp) (fun q hq => by rw [e]; simp at hq ⊢; rcases hq with h | h <;> simp [h]) (fun r1 r2 r3 => ((((r1.append ((r3.drop 0).take 1)).append ((r3.drop 1).take 1)).append ((r2.drop 0).take 1)).append ((r2.drop 1).take 1))) fun D doc pm an cdv ct us mv ws l1 l2 l3 => ?_
  match us, mv, ws, l1, l2, l3 with
  | [u0, u1], [m0, m1], [w0, w1], _, _, _ => exact ⟨_, _, _, _, _, _, rfl, rfl, ⟨_, _, _, _, _, _, rfl, rfl, rfl⟩⟩
def g_kb_House_hold {α : Type} (us mv ws : List α) : List α := ((((us ++ (ws.drop 0).take 1) ++ (mv.drop 0).take 1) ++ (mv.drop 1).take 1) ++ (mv.drop 2).take 1)
theorem Tp.kb_House_hold (T : Tp P w K mg base) : ∃ fd, FnOk P w K mg base (L2.CX P w) (4 + 1) (He.ma K (He.ga K "House") "__init__") fd ["self", "plan", "hold", "pause", "hands", "age"] (sp_House___init__ K) ∧ ∃ mv : List Value, KBn K fd ["self", "plan", "hold", "pause", "hands", "age"] 2 ["hold"] (fun us ws => g_kb_House_hold us mv ws) (fun vs zs => g_kb_House_hold vs [.int 2, .int 1, .int 0] zs) := by
  obtain ⟨fd, F⟩ := T.fd_House___init__
  have e : He.DefD.kws K d_House___init__ = [(("hold" : Str), V.int 10), (("pause" : Str), V.int 2), (("hands" : Str), V.int 1), (("age" : Str), V.int 0)] := rfl
  refine ⟨fd, T.okF_House___init__ F, ?_⟩
  refine F.kbinds0 2 ["hold"] [("pause", V.int 2), ("hands", V.int 1), ("age", V.int 0)] g_kb_House_hold (by rw [e]; simp) (fun q hq => by rw [e]; simp at hq ⊢; rcases hq with h | h | h <;> simp [h]) (fun r1 r2 r3 => ((((r1.append ((r3.drop 0).take 1)).append ((r2.drop 0).take 1)).append ((r2.drop 1).take 1)).append ((r2.drop 2).take 1))) fun D doc pm an cdv ct us mv ws l1 l2 l3 => ?_
  match us, mv, ws, l1, l2, l3 with
  | [u0, u1], [m0, m1, m2], [w0], _, _, _ => exact ⟨_, _, _, _, _, _, rfl, rfl, ⟨_, _, _, _, _, _, rfl, rfl, ⟨_, _, _, _, _, _, rfl, rfl, rfl⟩⟩⟩
def g_kb_House_hands_hold {α : Type} (us mv ws : List α) : List α := ((((us ++ (ws.drop 1).take 1) ++ (mv.drop 0).take 1) ++ (ws.drop 0).take 1) ++ (mv.drop 1).take 1)
theorem Tp.kb_House_hands_hold (T : Tp P w K mg base) : ∃ fd, FnOk P w K mg base (L2.CX P w) (4 + 1) (He.ma K (He.ga K "House") "__init__") fd ["self", "plan", "hold", "pause", "hands", "age"] (sp_House___init__ K) ∧ ∃ mv : List Value, KBn K fd ["self", "plan", "hold", "pause", "hands", "age"] 2 ["hands", "hold"] (fun us ws => g_kb_House_hands_hold us mv ws) (fun vs zs => g_kb_House_hands_hold vs [.int 2, .int 0] zs) := by
  obtain ⟨fd, F⟩ := T.fd_House___init__
  have e : He.DefD.kws K d_House___init__ = [(("hold" : Str), V.int 10), (("pause" : Str), V.int 2), (("hands" : Str), V.int 1), (("age" : Str), V.int 0)] := rfl
  refine ⟨fd, T.okF_House___init__ F, ?_⟩
  refine F.kbinds0 2 ["hands", "hold"] [("pause", V.int 2), ("age", V.int 0)] g_kb_House_hands_hold (by rw [e]; simp) (fun q hq => by rw [e]; simp at hq ⊢; rcases hq with h | h <;> simp [h]) (fun r1 r2 r3 => ((((r1.append ((r3.drop 1).take 1)).append ((r2.drop 0).take 1)).append ((r3.drop 0).take 1)).append ((r2.drop 1).take 1))) fun D doc pm an cdv ct us mv ws l1 l2 l3 => ?_
  match us, mv, ws, l1, l2, l3 with
  | [u0, u1], [m0, m1], [w0, w1], _, _, _ => exact ⟨_, _, _, _, _, _, rfl, rfl, ⟨_, _, _, _, _, _, rfl, rfl, rfl⟩⟩
def g_kb_House_hands {α : Type} (us mv ws : List α) : List α := ((((us ++ (mv.drop 0).take 1) ++ (mv.drop 1).take 1) ++ (ws.drop 0).take 1) ++ (mv.drop 2).take 1)
theorem Tp.kb_House_hands (T : Tp P w K mg base) : ∃ fd, FnOk P w K mg base (L2.CX P w) (4 + 1) (He.ma K (He.ga K "House") "__init__") fd ["self", "plan", "hold", "pause", "hands", "age"] (sp_House___init__ K) ∧ ∃ mv : List Value, KBn K fd ["self", "plan", "hold", "pause", "hands", "age"] 2 ["hands"] (fun us ws => g_kb_House_hands us mv ws) (fun vs zs => g_kb_House_hands vs [.int 10, .int 2, .int 0] zs) := by
  obtain ⟨fd, F⟩ := T.fd_House___init__
  have e : He.DefD.kws K d_House___init__ = [(("hold" : Str), V.int 10), (("pause" : Str), V.int 2), (("hands" : Str), V.int 1), (("age" : Str), V.int 0)] := rfl
  refine ⟨fd, T.okF_House___init__ F, ?_⟩
  refine F.kbinds0 2 ["hands"] [("hold", V.int 10), ("pause", V.int 2), ("age", V.int 0)] g_kb_House_hands (by rw [e]; simp) (fun q hq => by rw [e]; simp at hq ⊢; rcases hq with h | h | h <;> simp [h]) (fun r1 r2 r3 => ((((r1.append ((r2.drop 0).take 1)).append ((r2.drop 1).take 1)).append ((r3.drop 0).take 1)).append ((r2.drop 2).take 1))) fun D doc pm an cdv ct us mv ws l1 l2 l3 => ?_
  match us, mv, ws, l1, l2, l3 with
  | [u0, u1], [m0, m1, m2], [w0], _, _, _ => exact ⟨_, _, _, _, _, _, rfl, rfl, ⟨_, _, _, _, _, _, rfl, rfl, ⟨_, _, _, _, _, _, rfl, rfl, rfl⟩⟩⟩
def g_kb_House_hold_hands_pause {α : Type} (us mv ws : List α) : List α := ((((us ++ (ws.drop 0).take 1) ++ (ws.drop 2).take 1) ++ (ws.drop 1).take 1) ++ (mv.drop 0).take 1)
theorem Tp.kb_House_hold_hands_pause (T : Tp P w K mg base) : ∃ fd, FnOk P w K mg base (L2.CX P w) (4 + 1) (He.ma K (He.ga K "House") "__init__") fd ["self", "plan", "hold", "pause", "hands", "age"] (sp_House___init__ K) ∧ ∃ mv : List Value, KBn K fd ["self", "plan", "hold", "pause", "hands", "age"] 2 ["hold", "hands", "pause"] (fun us ws => g_kb_House_hold_hands_pause us mv ws) (fun vs zs => g_kb_House_hold_hands_pause vs [.int 0] zs) := by
  obtain ⟨fd, F⟩ := T.fd_House___init__
  have e : He.DefD.kws K d_House___init__ = [(("hold" : Str), V.int 10), (("pause" : Str), V.int 2), (("hands" : Str), V.int 1), (("age" : Str), V.int 0)] := rfl
  refine ⟨fd, T.okF_House___init__ F, ?_⟩
  refine F.kbinds0 2 ["hold", "hands", "pause"] [("age", V.int 0)] g_kb_House_hold_hands_pause (by rw [e]; simp) (fun q hq => by rw [e]; simp at hq ⊢; simp [hq]) (fun r1 r2 r3 => ((((r1.append ((r3.drop 0).take 1)).append ((r3.drop 2).take 1)).append ((r3.drop 1).take 1)).append ((r2.drop 0).take 1))) fun D doc pm an cdv ct us mv ws l1 l2 l3 => ?_
  match us, mv, ws, l1, l2, l3 with
  | [u0, u1], [m0], [w0, w1, w2], _, _, _ => exact ⟨_, _, _, _, _, _, rfl, rfl, rfl⟩
def g_kb_House_hold_pause_hands {α : Type} (us mv ws : List α) : List α := ((((us ++ (ws.drop 0).take 1) ++ (ws.drop 1).take 1) ++ (ws.drop 2).take 1) ++ (mv.drop 0).take 1)
theorem Tp.kb_House_hold_pause_hands (T : Tp P w K mg base) : ∃ fd, FnOk P w K mg base (L2.CX P w) (4 + 1) (He.ma K (He.ga K "House") "__init__") fd ["self", "plan", "hold", "pause", "hands", "age"] (sp_House___init__ K) ∧ ∃ mv : List Value, KBn K fd ["self", "plan", "hold", "pause", "hands", "age"] 2 ["hold", "pause", "hands"] (fun us ws => g_kb_House_hold_pause_hands us mv ws) (fun vs zs => g_kb_House_hold_pause_hands vs [.int 0] zs) := by
  obtain ⟨fd, F⟩ := T.fd_House___init__
  have e : He.DefD.kws K d_House___init__ = [(("hold" : Str), V.int 10), (("pause" : Str), V.int 2), (("hands" : Str), V.int 1), (("age" : Str), V.int 0)] := rfl
  refine ⟨fd, T.okF_House___init__ F, ?_⟩
  refine F.kbinds0 2 ["hold", "pause", "hands"] [("age", V.int 0)] g_kb_House_hold_pause_hands (by rw [e]; simp) (fun q hq => by rw [e]; simp at hq ⊢; simp [hq]) (fun r1 r2 r3 => ((((r1.append ((r3.drop 0).take 1)).append ((r3.drop 1).take 1)).append ((r3.drop 2).take 1)).append ((r2.drop 0).take 1))) fun D doc pm an cdv ct us mv ws l1 l2 l3 => ?_
  match us, mv, ws, l1, l2, l3 with
  | [u0, u1], [m0], [w0, w1, w2], _, _, _ => exact ⟨_, _, _, _, _, _, rfl, rfl, rfl⟩
def g_kb_House_hold_age {α : Type} (us mv ws : List α) : List α := ((((us ++ (ws.drop 0).take 1) ++ (mv.drop 0).take 1) ++ (mv.drop 1).take 1) ++ (ws.drop 1).take 1)
theorem Tp.kb_House_hold_age (T : Tp P w K mg base) : ∃ fd, FnOk P w K mg base (L2.CX P w) (4 + 1) (He.ma K (He.ga K "House") "__init__") fd ["self", "plan", "hold", "pause", "hands", "age"] (sp_House___init__ K) ∧ ∃ mv : List Value, KBn K fd ["self", "plan", "hold", "pause", "hands", "age"] 2 ["hold", "age"] (fun us ws => g_kb_House_hold_age us mv ws) (fun vs zs => g_kb_House_hold_age vs [.int 2, .int 1] zs) := by
  obtain ⟨fd, F⟩ := T.fd_House___init__
  have e : He.DefD.kws K d_House___init__ = [(("hold" : Str), V.int 10), (("pause" : Str), V.int 2), (("hands" : Str), V.int 1), (("age" : Str), V.int 0)] := rfl
  refine ⟨fd, T.okF_House___init__ F, ?_⟩
  refine F.kbinds0 2 ["hold", "age"] [("pause", V.int 2), ("hands", V.int 1)] g_kb_House_hold_age (by rw [e]; simp) (fun q hq => by rw [e]; simp at hq ⊢; rcases hq with h | h <;> simp [h]) (fun r1 r2 r3 => ((((r1.append ((r3.drop 0).take 1)).append ((r2.drop 0).take 1)).append ((r2.drop 1).take 1)).append ((r3.drop 1).take 1))) fun D doc pm an cdv ct us mv ws l1 l2 l3 => ?_
  match us, mv, ws, l1, l2, l3 with
  | [u0, u1], [m0, m1], [w0, w1], _, _, _ => exact ⟨_, _, _, _, _, _, rfl, rfl, ⟨_, _, _, _, _, _, rfl, rfl, rfl⟩⟩
def g_kb_House_hold_pause_hands_age {α : Type} (us mv ws : List α) : List α := ((((us ++ (ws.drop 0).take 1) ++ (ws.drop 1).take 1) ++ (ws.drop 2).take 1) ++ (ws.drop 3).take 1)
theorem Tp.kb_House_hold_pause_hands_age (T : Tp P w K mg base) : ∃ fd, FnOk P w K mg base (L2.CX P w) (4 + 1) (He.ma K (He.ga K "House") "__init__") fd ["self", "plan", "hold", "pause", "hands", "age"] (sp_House___init__ K) ∧ ∃ mv : List Value, KBn K fd ["self", "plan", "hold", "pause", "hands", "age"] 2 ["hold", "pause", "hands", "age"] (fun us ws => g_kb_House_hold_pause_hands_age us mv ws) (fun vs zs => g_kb_House_hold_pause_hands_age vs [] zs) := by
  obtain ⟨fd, F⟩ := T.fd_House___init__
  have e : He.DefD.kws K d_House___init__ = [(("hold" : Str), V.int 10), (("pause" : Str), V.int 2), (("hands" : Str), V.int 1), (("age" : Str), V.int 0)] := rfl
  refine ⟨fd, T.okF_House___init__ F, ?_⟩
  refine F.kbinds0 2 ["hold", "pause", "hands", "age"] [] g_kb_House_hold_pause_hands_age (by rw [e]; simp) (fun q hq => by rw [e]; simp at hq ⊢) (fun r1 r2 r3 => ((((r1.append ((r3.drop 0).take 1)).append ((r3.drop 1).take 1)).append ((r3.drop 2).take 1)).append ((r3.drop 3).take 1))) fun D doc pm an cdv ct us mv ws l1 l2 l3 => ?_
  match us, mv, ws, l1, l2, l3 with
  | [u0, u1], [], [w0, w1, w2, w3], _, _, _ => exact rfl
end LH
end

section
set_option Elab.async false
set_option linter.all false
set_option maxRecDepth 100000
set_option maxHeartbeats 4000000
/-! a law's heap by the plain house alone -/
namespace LH
open PySem PySem.Spec PyProof.Rows L2 StX LamX
def LP (K : PySem.W.Frag) (H0 H : Hp) (p : Addr) (h : HouseS) (n m : Nat) (F : Cells) : Prop := ∃ G : HG, G.p = p ∧ G.er = h ∧ LS K H0 H G n m F
section
variable {K : PySem.W.Frag} {H0 H H' : Hp} {p : Addr} {h : HouseS} {n m n' m' : Nat} {F : Cells} {Q : VK} {E : XK}
theorem LP.same (s : LP K H0 H p h n m F) (e : Same H H') : LP K H0 H' p h n m F := let ⟨G, a, b, c⟩ := s; ⟨G, a, b, c.same e⟩
theorem LP.less (s : LP K H0 H p h n m F) (hn : n' ≤ n) (hm : m' ≤ m) : LP K H0 H p h n' m' F := let ⟨G, a, b, c⟩ := s; ⟨G, a, b, c.less hn hm⟩
theorem LP.extN (s : LP K H0 H p h n m F) : ExtN H0 H := let ⟨_, _, _, c⟩ := s; c.extN
theorem LP.tabs (s : LP K H0 H p h n m F) : Tabs (TT K) H := let ⟨_, _, _, c⟩ := s; c.tabs
theorem LP.good (s : LP K H0 H p h n m F) : Good n m h := by
  obtain ⟨G, _, e, c⟩ := s
  rw [← e]
  exact c.good
theorem LP.drop1 {q : Addr × (HO → Prop)} (s : LP K H0 H p h n m (q :: F)) : LP K H0 H p h n m F := let ⟨G, a, b, c⟩ := s; ⟨G, a, b, c.drop1⟩
theorem LP.new (s : LP K H0 H p h n m F) {a : Addr} {o : HO} {P : HO → Prop} (ha : H a = none) (hp : P o) (ho : ∀ ps, o ≠ .tbl ps) : LP K H0 (upd H a o) p h n m ((a, P) :: F) := let ⟨G, x, y, c⟩ := s; ⟨G, x, y, c.new ha hp ho⟩
theorem LP.fr (s : LP K H0 H p h n m F) : ∀ q ∈ F, ∃ o, H q.1 = some o ∧ q.2 o := fun q hq => let ⟨_, _, _, c⟩ := s; let ⟨_, _, o, a, b, _⟩ := c.fr q hq; ⟨o, a, b⟩
theorem LP.cells (s : LP K H0 H p h n m F) {W : List Addr} (a : Frw K W H H') (hW : ∀ c ∈ W, c ∈ F.map (·.1)) (hw : ∀ c ∈ W, ∃ o, H c = some o ∧ Wr o) (hc : ∀ q ∈ F, q.1 ∈ W → ∃ o, H' q.1 = some o ∧ q.2 o ∧ (∀ ps, o ≠ .tbl ps)) : LP K H0 H' p h n m F := let ⟨G, x, y, c⟩ := s; ⟨G, x, y, c.cells a.fr (a.tabs c.tabs) hW hw hc⟩
theorem LP.hm (s : LP K H0 H p h n m F) {k : Str} {R : Prop} (hk : ∀ G : HG, (houseFs G).lookup k = none) (q : R) : ∃ a dx fs, V.ref p = .ref a ∧ H a = some (.ins (cH K) dx fs) ∧ fs.lookup k = none ∧ R := by
  obtain ⟨G, rfl, _, c⟩ := s
  exact c.hm (hk G) q
theorem LB.houseP (s : LB K H0 H F) {x dx t : Addr} {l : List PlanG} {hold pause hands age : Int} (hx0 : Fresh0 H0 x) (hxF : ∀ q ∈ F, q.1 ≠ x) (hx : H x = some (.ins (cH K) dx [])) (hp : PlanAt K H t l) (ok : PlanOk l) (h1 : 1 ≤ hold ∧ hold ≤ 99) (h2 : 1 ≤ pause ∧ pause ≤ 99) (h3 : 1 ≤ hands ∧ hands ≤ 9) (h4 : 0 ≤ age ∧ age ≤ 99)
    (q : ∀ H', LP K H0 H' x (newHouse l hold pause hands age) 8900 120 F → KeepT K H H' → Q .non H') : sp_House___init__ K [.ref x, .ref t, .int hold, .int pause, .int hands, .int age] H Q E :=
  s.house hx0 hxF hx hp ok h1 h2 h3 h4 fun H' G' a b c d => q H' ⟨G', b, d, a⟩ c
theorem LP.turn (s : LP K H0 H p h (n + 1) m F) {tick : Int} (ht : h.here ≤ tick ∧ tick ≤ 99999) (q : ∀ H', LP K H0 H' p (h.turn tick) n m F → KeepT K H H' → Q .non H') : sp_House_turn K [.ref p, .int tick] H Q E := by
  obtain ⟨G, rfl, er, c⟩ := s
  exact c.turn (by rw [er]; exact ht) fun H' G' a b k e => q H' ⟨G', b, by rw [e, er], a⟩ k
theorem LP.take (s : LP K H0 H p h (n + 1) m F) {x : Str} (hx : h.has x) (q : ∀ H' v, LP K H0 H' p ((h.take x).2) n m F → KeepT K H H' → Dt K H' v (h.take x).1 → Q v H') : sp_House_take K [.ref p, .str x] H Q E := by
  obtain ⟨G, rfl, er, c⟩ := s
  exact c.take (by rw [er]; exact hx) fun H' G' v a b k e d => q H' v ⟨G', b, by rw [e, er], a⟩ k (by rw [← er]; exact d)
theorem LP.done (s : LP K H0 H p h (n + 1) m F) {k : Nat} (hk : k < h.given) (q : ∀ H', LP K H0 H' p ((h.done k).2) n m F → KeepT K H H' → Q (.bl (h.done k).1) H') : sp_House_done K [.ref p, .int (k : Int)] H Q E := by
  obtain ⟨G, rfl, er, c⟩ := s
  exact c.done (by rw [er]; exact hk) fun H' G' a b k e => by rw [er]; exact q H' ⟨G', b, by rw [e, er], a⟩ k
theorem LP.fail (s : LP K H0 H p h (n + 1) m F) {k : Nat} (hk : k < h.given) (q : ∀ H', LP K H0 H' p ((h.fail k).2) n m F → KeepT K H H' → Q (.bl (h.fail k).1) H') : sp_House_fail K [.ref p, .int (k : Int)] H Q E := by
  obtain ⟨G, rfl, er, c⟩ := s
  exact c.fail (by rw [er]; exact hk) fun H' G' a b k e => by rw [er]; exact q H' ⟨G', b, by rw [e, er], a⟩ k
theorem LP.beat (s : LP K H0 H p h (n + 1) m F) {k : Nat} (hk : k < h.given) (q : ∀ H', LP K H0 H' p ((h.beat k).2) n m F → KeepT K H H' → Q (.bl (h.beat k).1) H') : sp_House_beat K [.ref p, .int (k : Int)] H Q E := by
  obtain ⟨G, rfl, er, c⟩ := s
  exact c.beat (by rw [er]; exact hk) fun H' G' a b k e => by rw [er]; exact q H' ⟨G', b, by rw [e, er], a⟩ k
theorem LP.tell (s : LP K H0 H p h (n + 1) m F) {k : Nat} {z : Int} (hk : k < h.given) (hz : 0 ≤ z ∧ z ≤ 100) (q : ∀ H', LP K H0 H' p ((h.tell k z).2) n m F → KeepT K H H' → Q (.bl (h.tell k z).1) H') : sp_House_tell K [.ref p, .int (k : Int), .int z] H Q E := by
  obtain ⟨G, rfl, er, c⟩ := s
  exact c.tell (by rw [er]; exact hk) hz fun H' G' a b k e => by rw [er]; exact q H' ⟨G', b, by rw [e, er], a⟩ k
theorem LP.again (s : LP K H0 H p h (n + 1) m F) {k : Nat} (hk : k < h.jobs.length) (q : ∀ H', LP K H0 H' p ((h.again k).2) n m F → KeepT K H H' → Q (.bl (h.again k).1) H') : sp_House_again K [.ref p, .int (k : Int)] H Q E := by
  obtain ⟨G, rfl, er, c⟩ := s
  exact c.again (by rw [er]; exact hk) fun H' G' a b k e => by rw [er]; exact q H' ⟨G', b, by rw [e, er], a⟩ k
theorem LP.drop (s : LP K H0 H p h (n + 1) m F) {k : Nat} (hk : k < h.jobs.length) (q : ∀ H', LP K H0 H' p ((h.drop k).2) n m F → KeepT K H H' → Q (.bl (h.drop k).1) H') : sp_House_drop K [.ref p, .int (k : Int)] H Q E := by
  obtain ⟨G, rfl, er, c⟩ := s
  exact c.drop (by rw [er]; exact hk) fun H' G' a b k e => by rw [er]; exact q H' ⟨G', b, by rw [e, er], a⟩ k
theorem LP.leave (s : LP K H0 H p h (n + 1) m F) {x : Str} (hx : h.has x) (q : ∀ H', LP K H0 H' p (h.leave x) n m F → KeepT K H H' → Q .non H') : sp_House_leave K [.ref p, .str x] H Q E := by
  obtain ⟨G, rfl, er, c⟩ := s
  exact c.leave (by rw [er]; exact hx) fun H' G' a b k e => q H' ⟨G', b, by rw [e, er], a⟩ k
theorem LP.join (s : LP K H0 H p h (n + 1) m F) {x : Str} {t : Addr} {ks : List Str} (hx : isName x = true) (hn : (h.staff.find? fun s => decide (s.1 = x)) = none) (ht : SqT K H t (vstrs ks)) (hk : ks ≠ []) (hkl : ks.length ≤ 1000) (hkn : ks.Nodup) (hks : ∀ k ∈ ks, ∃ r, h.row k = some r) (q : ∀ H', LP K H0 H' p (h.join x ks) n m F → KeepT K H H' → Q .non H') : sp_House_join K [.ref p, .str x, .ref t] H Q E := by
  obtain ⟨G, rfl, er, c⟩ := s
  exact c.join hx (by rw [er]; exact hn) ht hk hkl hkn (by rw [er]; exact hks) fun H' G' a b k e => q H' ⟨G', b, by rw [e, er], a⟩ k
theorem LP.limit (s : LP K H0 H p h (n + 1) m F) {k : Str} {most rate : Int} (hk : ∃ r, h.row k = some r) (h1 : 1 ≤ most ∧ most ≤ 9) (h2 : 1 ≤ rate ∧ rate ≤ 99) (q : ∀ H', LP K H0 H' p (h.limit k most rate) n m F → KeepT K H H' → Q .non H') : sp_House_limit K [.ref p, .str k, .int most, .int rate] H Q E := by
  obtain ⟨G, rfl, er, c⟩ := s
  exact c.limit (by rw [er]; exact hk) h1 h2 fun H' G' a b k e => q H' ⟨G', b, by rw [e, er], a⟩ k
theorem LP.clock (s : LP K H0 H p h (n + 1) m F) {rank first every many tries : Int} {t : Addr} {steps : List Str} (h1 : 0 ≤ rank ∧ rank ≤ 9) (ht : SqT K H t (vstrs steps)) (hs : 1 ≤ steps.length ∧ steps.length ≤ 5) (hsk : ∀ x ∈ steps, ∃ r, h.row x = some r) (h2 : h.here ≤ first ∧ first ≤ 99999) (h4 : 1 ≤ every ∧ every ≤ 999) (h5 : 1 ≤ many ∧ many ≤ 99) (h3 : 1 ≤ tries ∧ tries ≤ 9) (q : ∀ H', LP K H0 H' p (h.clock rank steps first every many tries) n m F → KeepT K H H' → Q (.int (h.clks.length : Int)) H') : sp_House_clock K [.ref p, .int rank, .ref t, .int first, .int every, .int many, .int tries] H Q E := by
  obtain ⟨G, rfl, er, c⟩ := s
  exact c.clock h1 ht hs (by rw [er]; exact hsk) (by rw [er]; exact h2) h4 h5 h3 fun H' G' a b k e => by rw [er]; exact q H' ⟨G', b, by rw [e, er], a⟩ k
theorem LP.why (s : LP K H0 H p h n m F) {x : Str} {k : Nat} (hx : h.has x) (hk : k < h.jobs.length) (q : ∀ H' v, LP K H0 H' p ((h.why x k).2) n m F → KeepT K H H' → Dt K H' v (h.why x k).1 → Q v H') : sp_House_why K [.ref p, .str x, .int (k : Int)] H Q E := by
  obtain ⟨G, rfl, er, c⟩ := s
  exact c.why (by rw [er]; exact hx) (by rw [er]; exact hk) fun H' G' v a b k e d => q H' v ⟨G', b, by rw [e, er], a⟩ k (by rw [← er]; exact d)
theorem LP.limits (s : LP K H0 H p h n m F) {k : Str} (hk : ∃ r, h.row k = some r) (q : ∀ H' v, LP K H0 H' p ((h.limitsOf k).2) n m F → KeepT K H H' → Dt K H' v (h.limitsOf k).1 → Q v H') : sp_House_limits_of K [.ref p, .str k] H Q E := by
  obtain ⟨G, rfl, er, c⟩ := s
  exact c.limits (by rw [er]; exact hk) fun H' G' v a b k e d => q H' v ⟨G', b, by rw [e, er], a⟩ k (by rw [← er]; exact d)
theorem LP.add {z : Nat} (s : LP K H0 H p h (n + 1) (m + z) F) {rank time tries : Int} {t u : Addr} {steps : List Str} {needs : List Nat} (h1 : 0 ≤ rank ∧ rank ≤ 9) (h2 : 0 ≤ time ∧ time ≤ 99999) (ht : SqT K H t (vstrs steps)) (hs : 1 ≤ steps.length ∧ steps.length ≤ 5) (hsk : ∀ x ∈ steps, ∃ r, h.row x = some r)
    (hu : SqT K H u (vnats needs)) (hn : needs.length ≤ 6) (hp : needs.Pairwise (· < ·)) (hj : ∀ k ∈ needs, k < h.jobs.length) (h3 : 1 ≤ tries ∧ tries ≤ 9) (hz : needs = [] ∨ 1 ≤ z)
    (q : ∀ H', LP K H0 H' p (h.add rank time steps needs tries) n m F → KeepT K H H' → Q (.int (h.jobs.length : Int)) H') : sp_House_add K [.ref p, .int rank, .int time, .ref t, .ref u, .int tries] H Q E := by
  obtain ⟨G, rfl, er, c⟩ := s
  exact c.add h1 h2 ht hs (by rw [er]; exact hsk) hu hn hp (by rw [er]; exact hj) h3 hz fun H' G' a b k e => by rw [er]; exact q H' ⟨G', b, by rw [e, er], a⟩ k
theorem LP.state (s : LP K H0 H p h n m F) {k : Nat} (hk : k < h.jobs.length) (q : ∀ H' v, LP K H0 H' p h n m F → Same H H' → Dt K H' v (h.state k) → Q v H') : sp_House_state K [.ref p, .int (k : Int)] H Q E := by
  obtain ⟨G, rfl, er, c⟩ := s
  exact c.state (by rw [er]; exact hk) fun H' v a e d => q H' v ⟨G, rfl, er, a⟩ e (by rw [← er]; exact d)
theorem LP.progress (s : LP K H0 H p h n m F) {k : Nat} (hk : k < h.jobs.length) (q : ∀ H' v, LP K H0 H' p h n m F → Same H H' → Dt K H' v (h.progress k) → Q v H') : sp_House_progress K [.ref p, .int (k : Int)] H Q E := by
  obtain ⟨G, rfl, er, c⟩ := s
  exact c.progress (by rw [er]; exact hk) fun H' v a e d => q H' v ⟨G, rfl, er, a⟩ e (by rw [← er]; exact d)
theorem LP.due (s : LP K H0 H p h n m F) (q : ∀ H', LP K H0 H' p h n m F → Same H H' → Q (optI h.nextDue) H') : sp_House_next_due K [.ref p] H Q E := by
  obtain ⟨G, rfl, er, c⟩ := s
  exact c.due fun H' a e => by rw [er]; exact q H' ⟨G, rfl, er, a⟩ e
theorem LP.queue (s : LP K H0 H p h n m F) {k : Str} (hk : ∃ r, h.row k = some r) (q : ∀ H' t, LP K H0 H' p h n m F → KeepT K H H' → H' t = some (.lst (vnats (h.queue k))) → Q (.ref t) H') : sp_House_queue K [.ref p, .str k] H Q E := by
  obtain ⟨G, rfl, er, c⟩ := s
  exact c.queue (by rw [er]; exact hk) fun H' t a k _ e => q H' t ⟨G, rfl, er, a⟩ k (by rw [← er]; exact e)
theorem LP.leases (s : LP K H0 H p h n m F) (q : ∀ H' t zs ds, LP K H0 H' p h n m F → Same H H' → H' t = some (.lst zs) → h.leases = .list ds → Dts K H' zs ds → Q (.ref t) H') : sp_House_leases K [.ref p] H Q E := by
  obtain ⟨G, rfl, er, c⟩ := s
  exact c.leases fun H' t zs ds a e et el d => q H' t zs ds ⟨G, rfl, er, a⟩ e et (by rw [← er]; exact el) d
theorem LP.workers (s : LP K H0 H p h n m F) (q : ∀ H' t zs ds, LP K H0 H' p h n m F → Same H H' → H' t = some (.lst zs) → h.workers = .list ds → Dts K H' zs ds → Q (.ref t) H') : sp_House_workers K [.ref p] H Q E := by
  obtain ⟨G, rfl, er, c⟩ := s
  exact c.workers fun H' t zs ds a e et el d => q H' t zs ds ⟨G, rfl, er, a⟩ e et (by rw [← er]; exact el) d
end
/-! ### comparing data -/
mutual
def eqB : PyData → PyData → Bool
  | .none, .none => true
  | .bool a, .bool b => a == b
  | .int a, .int b => decide (a = b)
  | .str a, .str b => decide (a = b)
  | .list xs, .list ys => eqL xs ys
  | .tuple xs, .tuple ys => eqL xs ys
  | _, _ => false
def eqL : List PyData → List PyData → Bool
  | [], [] => true
  | x :: xs, y :: ys => eqB x y && eqL xs ys
  | _, _ => false
end
mutual
theorem eqB_eq : ∀ {a b : PyData}, eqB a b = true → a = b
  | .none, b, h => by cases b <;> first | rfl | (simp [eqB] at h)
  | .bool x, b, h => by
    cases b <;> first | (simp [eqB] at h; done) | (simp [eqB] at h; rw [h])
  | .int x, b, h => by
    cases b <;> first | (simp [eqB] at h; done) | (simp [eqB] at h; rw [h])
  | .str x, b, h => by
    cases b <;> first | (simp [eqB] at h; done) | (simp [eqB] at h; rw [h])
  | .list xs, b, h => by
    cases b with
    | list ys => unfold eqB at h; rw [eqL_eq h]
    | _ => simp [eqB] at h
  | .tuple xs, b, h => by
    cases b with
    | tuple ys => unfold eqB at h; rw [eqL_eq h]
    | _ => simp [eqB] at h
  | .dict kvs, b, h => by cases b <;> simp [eqB] at h
theorem eqL_eq : ∀ {a b : List PyData}, eqL a b = true → a = b
  | [], [], _ => rfl
  | [], y :: ys, h => by simp [eqL] at h
  | x :: xs, [], h => by simp [eqL] at h
  | x :: xs, y :: ys, h => by
    unfold eqL at h
    obtain ⟨h1, h2⟩ := Bool.and_eq_true_iff.mp h
    rw [eqB_eq h1, eqL_eq h2]
end

mutual
def nodict : PyData → Bool
  | .list xs | .tuple xs => nodictL xs
  | .dict _ => false
  | _ => true
def nodictL : List PyData → Bool
  | [] => true
  | x :: xs => nodict x && nodictL xs
end
mutual
theorem eqv_refl : ∀ {d : PyData}, nodict d = true → PyData.eqv d d = true
  | .none, _ => rfl
  | .bool b, _ => by simp [PyData.eqv]
  | .int i, _ => by simp [PyData.eqv]
  | .str s, _ => by simp [PyData.eqv]
  | .list xs, h => by unfold PyData.eqv; unfold nodict at h; exact eqvL_refl h
  | .tuple xs, h => by unfold PyData.eqv; unfold nodict at h; exact eqvL_refl h
  | .dict _, h => by simp [nodict] at h
theorem eqvL_refl : ∀ {ds : List PyData}, nodictL ds = true → PyData.eqvAll ds ds = true
  | [], _ => by simp [PyData.eqvAll]
  | x :: xs, h => by
    unfold nodictL at h
    obtain ⟨h1, h2⟩ := Bool.and_eq_true_iff.mp h
    unfold PyData.eqvAll
    rw [eqv_refl h1, eqvL_refl h2]
    rfl
end
section
variable {K : PySem.W.Frag} {H : Hp} {Q : VK}
theorem neD_I {x y : V} {d : PyData} (hx : Dp K H x d) (hy : Dp K H y d) (hs : SeqAt.shaped d = true) (hn : nodict d = true) (q : Q (.bl false) H) : rNeD K x y H Q := ⟨d, d, hx, hy, hs, hs, by rw [eqv_refl hn]; exact q⟩
theorem eqD_I {x y : V} {d : PyData} (hx : Dp K H x d) (hy : Dp K H y d) (hs : SeqAt.shaped d = true) (hn : nodict d = true) (q : Q (.bl true) H) : rEqD K x y H Q := ⟨d, d, hx, hy, hs, hs, by rw [eqv_refl hn]; exact q⟩
end
end LH
end

section
set_option Elab.async false
set_option linter.all false
set_option maxRecDepth 100000
set_option maxHeartbeats 4000000
/-! draws, comparisons, as rules -/
namespace LH
open PySem PySem.Spec PyProof.Rows L2 StX LamX
section
variable {K : PySem.W.Frag} {H0 H H' : Hp} {p : Addr} {h : HouseS} {n m : Nat} {F : Cells} {Q : VK} {E : XK}
theorem lawbegun_ok {a : Addr} {ns : List Int} (ha : SqL K H a (vints ns)) (hl : ns.length ≤ 63) (q : ∀ H' b l r, Same H H' → H b = none → H l = none → b ≠ l → H' b = some (.lst [.ref l, .int r]) → H' l = some (.lst (vints ns)) → Q (.ref b) H') : sp__law_begun K [.ref a] H Q E := by
  unfold sp__law_begun
  exact ⟨a, ns, rfl, ha, hl, q⟩
def BoxF (b l : Addr) : Cells := [(b, boxC l), (l, drawC)]
/-- the box stands with its own cells, others behind -/
theorem lb_box {b l : Addr} {r : Int} {ns : List Int} (t : Tabs (TT K) H) (e : Same H H') (nb : H b = none) (nl : H l = none) (ne : b ≠ l) (eb : H' b = some (.lst [.ref l, .int r])) (el : H' l = some (.lst (vints ns))) (hl : ns.length ≤ 63) : LB K H H' (BoxF b l) := by
  refine ⟨tabs_same e t, fun c o h _ => e _ _ h, fun q hq => ?_, ?_⟩
  · unfold BoxF at hq
    simp only [List.mem_cons, List.not_mem_nil, or_false] at hq
    rcases hq with rfl | rfl
    · exact ⟨fun o e => by rw [nb] at e; (cases e), _, eb, ⟨r, rfl⟩, fun _ z => nomatch z⟩
    · exact ⟨fun o e => by rw [nl] at e; (cases e), _, el, ⟨ns, rfl, by omega⟩, fun _ z => nomatch z⟩
  · simp [BoxF, ne]
theorem cell_uniq {F : Cells} (nd : (F.map (·.1)).Nodup) {q r : Addr × (HO → Prop)} (hq : q ∈ F) (hr : r ∈ F) (e : q.1 = r.1) : q = r := by
  obtain ⟨i, hi, ei⟩ := List.getElem_of_mem hq
  obtain ⟨j, hj, ej⟩ := List.getElem_of_mem hr
  have z : (F.map (·.1))[i]'(by simpa using hi) = (F.map (·.1))[j]'(by simpa using hj) := by simp [ei, ej, e]
  have := (List.getElem_inj nd).mp z
  subst this
  exact ei.symm.trans ej
theorem box_of {b l : Addr} (hne : b ≠ l) (f1 : ∃ o, H b = some o ∧ boxC l o) (f2 : ∃ o, H l = some o ∧ drawC o) : BoxAt H b l := by
  obtain ⟨o, e1, r, rfl⟩ := f1
  obtain ⟨o, e2, ns, rfl, hl⟩ := f2
  exact ⟨⟨r, e1⟩, ⟨ns, e2, hl⟩, hne⟩
theorem box_cells {b l : Addr} (nd : (F.map (·.1)).Nodup) (hb : (b, boxC l) ∈ F) (hl : (l, drawC) ∈ F) (bx : BoxAt H' b l) : ∀ q ∈ F, q.1 ∈ [b, l] → ∃ o, H' q.1 = some o ∧ q.2 o ∧ (∀ ps, o ≠ .tbl ps) := fun q hq hm => by
  simp only [List.mem_cons, List.not_mem_nil, or_false] at hm
  rcases hm with z | z
  · obtain rfl := cell_uniq nd hq hb z
    obtain ⟨r, e⟩ := bx.box
    exact ⟨_, e, ⟨r, rfl⟩, fun _ z => nomatch z⟩
  · obtain rfl := cell_uniq nd hq hl z
    obtain ⟨ns, e, h⟩ := bx.nums
    exact ⟨_, e, ⟨ns, rfl, h⟩, fun _ z => nomatch z⟩
theorem box_wr {b l : Addr} (bx : BoxAt H b l) : ∀ c ∈ [b, l], ∃ o, H c = some o ∧ Wr o := fun c hc => by
  simp only [List.mem_cons, List.not_mem_nil, or_false] at hc
  rcases hc with rfl | rfl
  · obtain ⟨r, e⟩ := bx.box
    exact ⟨_, e, trivial⟩
  · obtain ⟨ns, e, _⟩ := bx.nums
    exact ⟨_, e, trivial⟩
theorem box_in {b l : Addr} (hb : (b, boxC l) ∈ F) (hl : (l, drawC) ∈ F) : ∀ c ∈ [b, l], c ∈ F.map (·.1) := fun c hc => by
  simp only [List.mem_cons, List.not_mem_nil, or_false] at hc
  rcases hc with rfl | rfl
  · exact List.mem_map_of_mem (f := (·.1)) hb
  · exact List.mem_map_of_mem (f := (·.1)) hl
theorem LB.draw {b l : Addr} (s : LB K H0 H F) (hb : (b, boxC l) ∈ F) (hl : (l, drawC) ∈ F) (hne : b ≠ l) {many : Int} (hm : 0 < many ∧ many < 2 ^ 100) (q : ∀ H' i, LB K H0 H' F → KeepT K H H' → 0 ≤ i → i < many → Q (.int i) H') : sp__law_take K [.ref b, .int many] H Q E := by
  have f1 := s.fr _ hb
  have f2 := s.fr _ hl
  have bx : BoxAt H b l := box_of hne (let ⟨_, o, a, b, _⟩ := f1; ⟨o, a, b⟩) (let ⟨_, o, a, b, _⟩ := f2; ⟨o, a, b⟩)
  unfold sp__law_take
  exact ⟨b, l, many, rfl, bx, hm, fun H' i f bx' h1 h2 => q H' i (s.cells f.fr (f.tabs s.tabs) (box_in hb hl) (box_cells s.nd hb hl bx')) (f.fr.keepT (box_wr bx)) h1 h2⟩
theorem LP.draw {b l : Addr} (s : LP K H0 H p h n m F) (hb : (b, boxC l) ∈ F) (hl : (l, drawC) ∈ F) (hne : b ≠ l) {many : Int} (hm : 0 < many ∧ many < 2 ^ 100) (q : ∀ H' i, LP K H0 H' p h n m F → KeepT K H H' → 0 ≤ i → i < many → Q (.int i) H') : sp__law_take K [.ref b, .int many] H Q E := by
  have bx : BoxAt H b l := box_of hne (s.fr _ hb) (s.fr _ hl)
  have nd : (F.map (·.1)).Nodup := let ⟨_, _, _, c⟩ := s; c.nd
  unfold sp__law_take
  exact ⟨b, l, many, rfl, bx, hm, fun H' i f bx' h1 h2 => q H' i (s.cells f (box_in hb hl) (box_wr bx) (box_cells nd hb hl bx')) (f.fr.keepT (box_wr bx)) h1 h2⟩
theorem alike_ok {D : Nat} {v u : V} {d : PyData} (hv : Dp K H v d) (hu : Dp K H u d) (hd : d.depth ≤ D) (hs : small d = true) (q : ∀ H', Same H H' → Q (.bl true) H') : sp__law_alike D K [v, u] H Q E := by
  unfold sp__law_alike
  exact ⟨v, u, d, rfl, hv, hu, hd, hs, q⟩
/-! ### side conditions as checks -/
def hasB (h : HouseS) (x : Str) : Bool := (h.staff.find? fun s => decide (s.1 = x)).isSome
theorem hasB_of {h : HouseS} {x : Str} (e : hasB h x = true) : h.has x := Option.isSome_iff_exists.mp e
def rowsB (h : HouseS) (ks : List Str) : Bool := ks.all fun k => (h.row k).isSome
theorem rowsB_of {h : HouseS} {ks : List Str} (e : rowsB h ks = true) : ∀ k ∈ ks, ∃ r, h.row k = some r := fun k hk => Option.isSome_iff_exists.mp (List.all_eq_true.mp e k hk)
theorem row_of {h : HouseS} {k : Str} (e : (h.row k).isSome = true) : ∃ r, h.row k = some r := Option.isSome_iff_exists.mp e
theorem plan_one {t u : Addr} {k : Str} {a b : Int} (ht : SqT K H t [.ref u]) (hu : SqT K H u [.str k, .int a, .int b]) : PlanAt K H t [⟨u, k, a, b⟩] := ⟨ht, fun r hr => by
  rw [List.mem_singleton.mp hr]
  exact hu⟩
end
end LH
end

section
set_option Elab.async false
set_option linter.all false
set_option maxRecDepth 100000
set_option maxHeartbeats 4000000
/-! k13: jobs of one kind, one taken and done at each tick; the list of those that wait -/
namespace LH
open PySem PySem.Spec PyProof.Rows L2 PySem.W
abbrev zA : Str := Str.ofString "a"
abbrev zX : Str := Str.ofString "x"
theorem ins_mem {α : Type} {le : α → α → Bool} {a b : α} : ∀ {l : List α}, b ∈ ins le a l ↔ b = a ∨ b ∈ l
  | [] => by simp [ins]
  | c :: l => by
    unfold ins
    split
    · simp
    · rw [List.mem_cons, ins_mem, List.mem_cons]
      constructor
      · rintro (h | h | h)
        · exact .inr (.inl h)
        · exact .inl h
        · exact .inr (.inr h)
      · rintro (h | h | h)
        · exact .inr (.inl h)
        · exact .inl h
        · exact .inr (.inr h)
theorem isort_mem {α : Type} {le : α → α → Bool} {b : α} : ∀ {l : List α}, b ∈ isort le l ↔ b ∈ l
  | [] => Iff.rfl
  | a :: l => by
    show b ∈ ins le a (isort le l) ↔ _
    rw [ins_mem, isort_mem, List.mem_cons]
theorem ins_map {α β : Type} {le : α → α → Bool} {le' : β → β → Bool} {f : α → β} {a : α} : ∀ {l : List α}, (∀ b ∈ l, le' (f a) (f b) = le a b) → ins le' (f a) (l.map f) = (ins le a l).map f
  | [], _ => rfl
  | b :: l, h => by
    show (if le' (f a) (f b) = true then f a :: f b :: l.map f else f b :: ins le' (f a) (l.map f)) = _
    rw [h b List.mem_cons_self, ins_map fun c hc => h c (List.mem_cons_of_mem _ hc)]
    show _ = (if le a b = true then a :: b :: l else b :: ins le a l).map f
    split <;> rfl
theorem isort_map {α β : Type} {le : α → α → Bool} {le' : β → β → Bool} {f : α → β} : ∀ {l : List α}, (∀ a ∈ l, ∀ b ∈ l, le' (f a) (f b) = le a b) → isort le' (l.map f) = (isort le l).map f
  | [], _ => rfl
  | a :: l, h => by
    show ins le' (f a) (isort le' (l.map f)) = (ins le a (isort le l)).map f
    rw [isort_map fun c hc d hd => h c (List.mem_cons_of_mem _ hc) d (List.mem_cons_of_mem _ hd)]
    exact ins_map fun b hb => h a List.mem_cons_self b (List.mem_cons_of_mem _ (isort_mem.mp hb))
theorem isort_ne {α : Type} {le : α → α → Bool} {l : List α} (h : l ≠ []) : ∃ a r, isort le l = a :: r := by
  cases e : isort le l with
  | nil =>
    cases l with
    | nil => exact absurd rfl h
    | cons a l =>
      have : a ∈ isort le (a :: l) := isort_mem.mpr List.mem_cons_self
      rw [e] at this
      cases this
  | cons a r => exact ⟨a, r, rfl⟩
/-- a row: rank, since, number -/
abbrev LRow := Int × Int × Nat
def moreOf (A t : Int) (q : LRow) : Int := if A > 0 then (t - q.2.1) / A else 0
def keyOf (A t : Int) (q : LRow) : PyData := .tuple [I' (-q.1 - moreOf A t q), I' q.2.1, N' q.2.2]
def newTwo (R : Int) (t : Nat) : List LRow := [(R, (t : Int), 1 + 2 * t), (R, (t : Int), 2 + 2 * t)]
def firstOf (A t : Int) (l : List LRow) : Nat := match isort (dataLe false (keyOf A t)) l with
  | [] => 0
  | q :: _ => q.2.2
def cutOf (A t : Int) (l : List LRow) : List LRow := l.filter fun q => decide (q.2.2 ≠ firstOf A t l)
def stL (A R : Int) : Nat → List LRow
  | 0 => [(0, 0, 0)]
  | t + 1 => cutOf A t (stL A R t ++ newTwo R t)
def fst13 (A R : Int) (t : Nat) : Nat := firstOf A t (stL A R t ++ newTwo R t)
def res13 (A R : Int) (n : Nat) : Option Nat := (List.range n).find? fun t => decide (fst13 A R t = 0)
theorem res13_some {A R : Int} {n t : Nat} (ht : t < n) (h : ∀ s < t, fst13 A R s ≠ 0) (h0 : fst13 A R t = 0) : res13 A R n = some t := by
  unfold res13
  have e : List.range n = List.range t ++ t :: (List.range' (t + 1) (n - t - 1)) := by
    rw [List.range_eq_range', List.range_eq_range', show n = t + (1 + (n - t - 1)) from by omega, ← List.range'_append_1, ← List.range'_append_1]
    simp
  rw [e, List.find?_append]
  have e1 : (List.range t).find? (fun t => decide (fst13 A R t = 0)) = none := by
    rw [List.find?_eq_none]
    intro s hs
    simpa using h s (List.mem_range.mp hs)
  rw [e1]
  simp [h0]
theorem res13_none {A R : Int} {n : Nat} (h : ∀ s < n, fst13 A R s ≠ 0) : res13 A R n = none := by
  unfold res13
  rw [List.find?_eq_none]
  intro s hs
  simpa using h s (List.mem_range.mp hs)
/-- what holds of a list of those that wait -/
structure LOk (R : Int) (n : Nat) (t : Int) (l : List LRow) : Prop where
  srt : l.Pairwise fun a b => a.2.2 < b.2.2
  top : ∀ q ∈ l, q.2.2 < n ∧ 0 ≤ q.2.1 ∧ q.2.1 ≤ t
  zero : ∀ q ∈ l, q = (0, 0, 0) ∨ (q.1 = R ∧ 1 ≤ q.2.2)
theorem LOk.two {R : Int} {t : Nat} {l : List LRow} (h : LOk R (1 + 2 * t) t l) : LOk R (3 + 2 * t) t (l ++ newTwo R t) := by
  refine ⟨?_, fun q hq => ?_, fun q hq => ?_⟩
  · rw [List.pairwise_append]
    refine ⟨h.srt, by simp [newTwo], fun a ha b hb => ?_⟩
    have := (h.top a ha).1
    simp only [newTwo, List.mem_cons, List.not_mem_nil, or_false] at hb
    rcases hb with rfl | rfl <;> (simp only; omega)
  · rcases List.mem_append.mp hq with z | z
    · have := h.top q z
      omega
    · simp only [newTwo, List.mem_cons, List.not_mem_nil, or_false] at z
      rcases z with rfl | rfl <;> (simp only; omega)
  · rcases List.mem_append.mp hq with z | z
    · exact h.zero q z
    · simp only [newTwo, List.mem_cons, List.not_mem_nil, or_false] at z
      rcases z with rfl | rfl <;> exact .inr ⟨rfl, by simp only; omega⟩
theorem LOk.cut {R A : Int} {n : Nat} {t : Int} {l : List LRow} (h : LOk R n t l) : LOk R n t (cutOf A t l) :=
  ⟨h.srt.sublist List.filter_sublist, fun q hq => h.top q (List.mem_filter.mp hq).1, fun q hq => h.zero q (List.mem_filter.mp hq).1⟩
theorem LOk.later {R : Int} {n : Nat} {t u : Int} {l : List LRow} (h : LOk R n t l) (hu : t ≤ u) : LOk R n u l :=
  ⟨h.srt, fun q hq => by have := h.top q hq; omega, h.zero⟩
theorem stL_ok (A R : Int) : ∀ t : Nat, LOk R (1 + 2 * t) t (stL A R t)
  | 0 => ⟨by simp [stL], fun q hq => by
      rw [List.mem_singleton.mp hq]
      exact ⟨by decide, by decide, by decide⟩, fun q hq => .inl (List.mem_singleton.mp hq)⟩
  | t + 1 => by
    have h := ((stL_ok A R t).two.cut (A := A)).later (u := ((t + 1 : Nat) : Int)) (by omega)
    rw [show 3 + 2 * t = 1 + 2 * (t + 1) from by omega] at h
    exact h
theorem stL_len (A R : Int) : ∀ t : Nat, (stL A R t).length ≤ 1 + 2 * t
  | 0 => Nat.le_refl 1
  | t + 1 => by
    have h := stL_len A R t
    have z : (stL A R (t + 1)).length ≤ (stL A R t ++ newTwo R t).length := List.length_filter_le _ _
    rw [List.length_append] at z
    have : (newTwo R t).length = 2 := rfl
    omega
theorem keyLt0 {x y : Int} {xs ys : List PyData} (h : y < x) : PyProof.Rows.lexLt itemOrd (keyToks (.tuple (.int y :: ys))) (keyToks (.tuple (.int x :: xs))) = true := by
  have e : PyData.eqv (.int y) (.int x) = false := by
    simp only [PyData.eqv]
    simp
    omega
  show PyProof.Rows.lexLt itemOrd (keyToksAll (.int y :: ys)) (keyToksAll (.int x :: xs)) = true
  rw [dataLt_cons (by rfl), e]
  simp only [Bool.false_eq_true, if_false]
  unfold dataLt
  show PyProof.Rows.lexLt itemOrd [.inl y] [.inl x] = true
  rw [lex_one]
  simp [itemLt, h]
theorem head_le {α : Type} {k : α → PyData} {l : List α} {a b : α} {r : List α} (e : isort (dataLe false k) l = a :: r) (hb : b ∈ l) : dataLe false k a b = true := by
  rw [dsort_eq] at e
  have tl : TotalLe (dataLe false k) := sortLe_total _ _ _
  have tt : ∀ a b : α, (dataLe false k a b || dataLe false k b a) = true := fun a b => by rcases tl.total a b with h | h <;> simp [h]
  have hp := List.pairwise_mergeSort (le := dataLe false k) (fun a b c => tl.trans a b c) tt l
  rw [e, List.pairwise_cons] at hp
  have hm : b ∈ a :: r := by rw [← e]; exact List.mem_mergeSort.mpr hb
  rcases List.mem_cons.mp hm with z | z
  · rw [z]
    have := tt a a
    simpa using this
  · exact hp.1 b z
theorem fst13_age0 {R : Int} (hR : 1 ≤ R) (t : Nat) : fst13 0 R t ≠ 0 := by
  intro h0
  have ok := (stL_ok 0 R t).two
  unfold fst13 firstOf at h0
  obtain ⟨q, r, e⟩ := isort_ne (le := dataLe false (keyOf 0 t)) (l := stL 0 R t ++ newTwo R t) (by simp [newTwo])
  rw [e] at h0
  have hq : q ∈ stL 0 R t ++ newTwo R t := isort_mem.mp (by rw [e]; exact List.mem_cons_self)
  rcases ok.zero q hq with z | ⟨z1, z2⟩
  · have hb : ((R, (t : Int), 1 + 2 * t) : LRow) ∈ stL 0 R t ++ newTwo R t := List.mem_append_right _ (by simp [newTwo])
    have := head_le e hb
    unfold dataLe sortLe at this
    simp only [cond_false] at this
    have lt : PyProof.Rows.lexLt itemOrd (keyToks (keyOf 0 t (R, (t : Int), 1 + 2 * t))) (keyToks (keyOf 0 t q)) = true := by
      rw [z]
      exact keyLt0 (by simp [moreOf]; omega)
    rw [lt] at this
    cases this
  · simp only at h0
    omega
/-! ### the house -/
def oj (r s : Int) : JobS := ⟨r, s, [zA], [], 3, 0, 0, 0, none, none, s⟩
theorem oj_kind {r s : Int} : (oj r s).kind = zA := rfl
theorem oj_since {r s : Int} : (oj r s).since = s := by
  unfold JobS.since oj
  simp
structure S13 (A : Int) (h : HouseS) (t : Int) (L : List LRow) (g n m : Nat) : Prop where
  here : h.here = t
  hold : h.hold = 5
  hands : h.hands = 1
  age : h.age = A
  rows : ∃ ts : List Int, h.rows = [⟨zA, 1, 99, 0, ts⟩] ∧ ts.length ≤ m
  cnt : h.cnt = []
  staff : h.staff = [(zX, [zA])]
  clks : h.clks = []
  given : h.given = g
  len : h.jobs.length = n
  opn : ∀ q ∈ L, h.jobs[q.2.2]? = some (oj q.1 q.2.1)
  rest : ∀ (i : Nat) (j : JobS), h.jobs[i]? = some j → j.needs = [] ∧ ((∃ q ∈ L, q.2.2 = i) ∨ j.ended = some tDone)
  srt : L.Pairwise fun a b => a.2.2 < b.2.2
  low : ∀ q ∈ L, q.2.1 ≤ t
variable {A : Int} {h : HouseS} {t : Int} {L : List LRow} {g n m : Nat}
theorem lt_ext : ∀ {l1 l2 : List Nat}, l1.Pairwise (· < ·) → l2.Pairwise (· < ·) → (∀ a, a ∈ l1 ↔ a ∈ l2) → l1 = l2
  | [], [], _, _, _ => rfl
  | [], b :: l2, _, _, h => by have := (h b).mpr List.mem_cons_self; cases this
  | a :: l1, [], _, _, h => by have := (h a).mp List.mem_cons_self; cases this
  | a :: l1, b :: l2, h1, h2, h => by
    rw [List.pairwise_cons] at h1 h2
    have e : a = b := by
      rcases List.mem_cons.mp ((h a).mp List.mem_cons_self) with z | z
      · exact z
      · rcases List.mem_cons.mp ((h b).mpr List.mem_cons_self) with y | y
        · exact y.symm
        · have := h2.1 a z
          have := h1.1 b y
          omega
    subst e
    rw [lt_ext h1.2 h2.2 fun c => ?_]
    constructor
    · intro hc
      rcases List.mem_cons.mp ((h c).mp (List.mem_cons_of_mem _ hc)) with z | z
      · have := h1.1 c hc
        omega
      · exact z
    · intro hc
      rcases List.mem_cons.mp ((h c).mpr (List.mem_cons_of_mem _ hc)) with z | z
      · have := h2.1 c hc
        omega
      · exact z
theorem S13.isR (s : S13 A h t L g n m) {q : LRow} (hq : q ∈ L) : h.isReady (oj q.1 q.2.1) = true := by
  have := s.low q hq
  unfold HouseS.isReady HouseS.missing
  simp [oj, s.here, this]
theorem S13.ready (s : S13 A h t L g n m) : h.ready = L.map (·.2.2) := by
  refine lt_ext ?_ ?_ fun i => ?_
  · unfold HouseS.ready
    exact List.pairwise_lt_range.sublist List.filter_sublist
  · rw [List.pairwise_map]
    exact s.srt
  · unfold HouseS.ready
    rw [List.mem_filter, List.mem_range, List.mem_map]
    constructor
    · rintro ⟨h1, h2⟩
      obtain ⟨j, ej⟩ : ∃ j, h.jobs[i]? = some j := ⟨_, List.getElem?_eq_getElem h1⟩
      rw [ej] at h2
      rcases (s.rest i j ej).2 with ⟨q, hq, e⟩ | z
      · exact ⟨q, hq, e⟩
      · obtain ⟨z2, _⟩ := ready_parts h2
        rw [z] at z2
        cases z2
    · rintro ⟨q, hq, rfl⟩
      have e := s.opn q hq
      refine ⟨(List.getElem?_eq_some_iff.mp e).1, ?_⟩
      rw [e]
      exact s.isR hq
theorem S13.key (s : S13 A h t L g n m) {q : LRow} (hq : q ∈ L) : h.turnKey q.2.2 = keyOf A t q := by
  unfold HouseS.turnKey keyOf
  rw [s.opn q hq]
  simp only
  have e : 0 - h.rankOf (oj q.1 q.2.1) = -q.1 - moreOf A t q := by
    unfold HouseS.rankOf moreOf
    rw [s.age, oj_since, s.here]
    show 0 - (if A > 0 then q.1 + (t - q.2.1) / A else q.1) = _
    split <;> omega
  rw [e, oj_since]
theorem S13.order (s : S13 A h t L g n m) : h.order = (isort (dataLe false (keyOf A t)) L).map (·.2.2) := by
  unfold HouseS.order
  rw [s.ready]
  refine isort_map fun a ha b hb => ?_
  unfold dataLe sortLe
  simp only [cond_false]
  rw [s.key ha, s.key hb]
theorem S13.add {R : Int} (s : S13 A h t L g n m) : S13 A (h.add R t [zA] [] 3) t (L ++ [(R, t, n)]) g (n + 1) m := by
  have hl : ∀ q ∈ L, q.2.2 < n := fun q hq => by
    have := (List.getElem?_eq_some_iff.mp (s.opn q hq)).1
    rw [s.len] at this
    exact this
  have ej : (h.add R t [zA] [] 3).jobs = h.jobs ++ [oj R t] := by
    show h.jobs ++ [(⟨R, t, [zA], [], 3, 0, 0, 0, none, none, h.here⟩ : JobS)] = _
    rw [s.here]
    rfl
  refine ⟨s.here, s.hold, s.hands, s.age, s.rows, s.cnt, s.staff, s.clks, s.given, ?_, fun q hq => ?_, fun i j e => ?_, ?_, fun q hq => ?_⟩
  · rw [ej, List.length_append, s.len]
    rfl
  · rw [ej]
    rcases List.mem_append.mp hq with z | z
    · rw [List.getElem?_append_left (by rw [s.len]; exact hl q z)]
      exact s.opn q z
    · rw [List.mem_singleton.mp z]
      rw [List.getElem?_append_right (by rw [s.len]; exact Nat.le_refl _)]
      simp [s.len]
  · rw [ej] at e
    rcases app_get e with e | ⟨rfl, rfl⟩
    · obtain ⟨a, b⟩ := s.rest i j e
      refine ⟨a, b.imp (fun ⟨q, hq, e⟩ => ⟨q, List.mem_append_left _ hq, e⟩) id⟩
    · exact ⟨rfl, .inl ⟨(R, t, n), List.mem_append_right _ (by simp), s.len.symm⟩⟩
  · rw [List.pairwise_append]
    refine ⟨s.srt, by simp, fun a ha b hb => ?_⟩
    rw [List.mem_singleton.mp hb]
    exact hl a ha
  · rcases List.mem_append.mp hq with z | z
    · exact s.low q z
    · rw [List.mem_singleton.mp z]
      exact Int.le_refl _
/-- it takes the first, does it -/
theorem S13.go (s : S13 A h t L g n m) (hL : L ≠ []) (hm : m < 99) :
    ∃ i : Nat, i = firstOf A t L ∧ (∃ q ∈ L, q.2.2 = i) ∧ (h.take zX).1 = .tuple [N' i, N' 0, N' g, I' (t + 5)] ∧ g < (h.take zX).2.given ∧ S13 A ((h.take zX).2.done g).2 t (cutOf A t L) (g + 1) n (m + 1) := by
  obtain ⟨q, r, e⟩ := isort_ne (le := dataLe false (keyOf A t)) hL
  have ei : firstOf A t L = q.2.2 := by
    unfold firstOf
    rw [e]
  have hq : q ∈ L := isort_mem.mp (by rw [e]; exact List.mem_cons_self)
  have eo : h.order = q.2.2 :: r.map (·.2.2) := by
    rw [s.order, e]
    rfl
  have ej := s.opn q hq
  obtain ⟨ts, er, hl⟩ := s.rows
  have hrow : h.row zA = some ⟨zA, 1, 99, 0, ts⟩ := by
    unfold HouseS.row
    rw [er]
    rfl
  have htrim : (ts.filter fun o => decide (o > t - 10)).length ≤ ts.length := List.length_filter_le _ _
  have hlat : h.lately zA = ((((ts.filter fun o => decide (o > t - 10)).length : Nat) : Int), h.rowUp zA fun r => r.trim h.here) := by
    unfold HouseS.lately
    rw [hrow]
    simp only [RowS.trim, s.here]
  have hh : h.hindrance zX (oj q.1 q.2.1) = (none, h.rowUp zA fun r => r.trim h.here) := by
    rw [hind_of (by rw [oj_kind]; exact hrow), oj_kind, hlat]
    have hk : zA ∈ h.kindsOf zX := by
      unfold HouseS.kindsOf
      rw [s.staff]
      simp
    have h4 : h.handsOf zX = 0 := by
      unfold HouseS.handsOf
      rw [s.cnt]
      rfl
    rw [if_neg (by simp [hk]), if_neg (by simp), if_neg (fun z => z (by show (((ts.filter fun o => decide (o > t - 10)).length : Nat) : Int) < 99; omega)), h4, s.hands]
    rfl
  have hrw : (h.rowUp zA fun r => r.trim h.here) = { h with rows := [⟨zA, 1, 99, 0, ts.filter fun o => decide (o > t - 10)⟩] } := by
    unfold HouseS.rowUp
    rw [er]
    simp [RowS.trim, s.here]
  have etake : h.take zX = (.tuple [N' q.2.2, N' 0, N' g, I' (t + 5)], ({ h with rows := [⟨zA, 1, 99, 0, ts.filter fun o => decide (o > t - 10)⟩] } : HouseS).takeOne zX q.2.2 (oj q.1 q.2.1)) := by
    unfold HouseS.take
    rw [eo]
    unfold HouseS.takeIn
    rw [ej]
    show (if (h.hindrance zX (oj q.1 q.2.1)).1 = none then (PyData.tuple [N' q.2.2, N' 0, N' h.given, I' (h.here + h.hold)], (h.hindrance zX (oj q.1 q.2.1)).2.takeOne zX q.2.2 (oj q.1 q.2.1)) else _) = _
    rw [hh, if_pos rfl, hrw, s.given, s.here, s.hold]
  refine ⟨q.2.2, ei.symm, ⟨q, hq, rfl⟩, by rw [etake], ?_, ?_⟩
  · rw [etake, takeOne_eq (by exact ej)]
    show g < h.given + 1
    rw [s.given]
    omega
  rw [etake]
  generalize eh2 : ({ h with rows := [⟨zA, 1, 99, 0, ts.filter fun o => decide (o > t - 10)⟩] } : HouseS).takeOne zX q.2.2 (oj q.1 q.2.1) = h2
  rw [takeOne_eq (by exact ej)] at eh2
  have e2j : h2.jobs = h.jobs.set q.2.2 { oj q.1 q.2.1 with held := some g } := by
    rw [← eh2, ← s.given]
  have e2c : h2.cnt = [⟨g, q.2.2, 0, zX, t + 5⟩] := by
    rw [← eh2]
    show h.cnt ++ [⟨h.given, q.2.2, 0, zX, h.here + h.hold⟩] = _
    rw [s.cnt, s.given, s.here, s.hold]
    rfl
  have e2r : h2.rows = [⟨zA, 1, 99, 1, (ts.filter fun o => decide (o > t - 10)) ++ [t]⟩] := by
    rw [← eh2]
    show (HouseS.rowUp _ _ _).rows = _
    unfold HouseS.rowUp
    simp [oj_kind, s.here]
  have e2h : h2.here = t := by rw [← eh2]; exact s.here
  have e2o : h2.hold = 5 := by rw [← eh2]; exact s.hold
  have e2n : h2.hands = 1 := by rw [← eh2]; exact s.hands
  have e2a : h2.age = A := by rw [← eh2]; exact s.age
  have e2s : h2.staff = [(zX, [zA])] := by rw [← eh2]; exact s.staff
  have e2k : h2.clks = [] := by rw [← eh2]; exact s.clks
  have e2g : h2.given = g + 1 := by rw [← eh2]; show h.given + 1 = _; rw [s.given]
  clear eh2
  have hlt := (List.getElem?_eq_some_iff.mp ej).1
  have ejl : (h2.note (.tuple [S' "done", N' g])).jobs[(⟨g, q.2.2, 0, zX, t + 5⟩ : LeaseS).work]? = some { oj q.1 q.2.1 with held := some g } := by
    show h2.jobs[q.2.2]? = _
    rw [e2j, List.getElem?_set_self hlt]
  have el : h2.lease g = some ⟨g, q.2.2, 0, zX, t + 5⟩ := by
    unfold HouseS.lease
    rw [e2c]
    simp
  have ecl := close_rest ejl (fun j => j.stepDone h2.here)
  have z : S13 A (((h2.note (.tuple [S' "done", N' g])).closed ⟨g, q.2.2, 0, zX, t + 5⟩).jobUp q.2.2 fun j => j.stepDone h2.here) t (cutOf A t L) (g + 1) n (m + 1) := by
    rw [show (⟨g, q.2.2, 0, zX, t + 5⟩ : LeaseS).work = q.2.2 from rfl] at ecl
    rw [ecl]
    refine ⟨e2h, e2o, e2n, e2a, ⟨(ts.filter fun o => decide (o > t - 10)) ++ [t], ?_, ?_⟩, ?_, e2s, e2k, e2g, ?_, fun p hp => ?_, fun i j e => ?_, s.srt.sublist List.filter_sublist, fun p hp => s.low p (List.mem_filter.mp hp).1⟩
    · show (HouseS.rowUp _ _ _).rows = _
      unfold HouseS.rowUp
      show List.map _ h2.rows = _
      rw [e2r]
      rfl
    · rw [List.length_append, List.length_singleton]
      omega
    · show List.filter _ h2.cnt = _
      rw [e2c]
      simp
    · show (h2.jobs.set _ _).length = _
      rw [e2j, List.length_set, List.length_set, s.len]
    · obtain ⟨h1, h3⟩ := List.mem_filter.mp hp
      have h3 : p.2.2 ≠ q.2.2 := by
        rw [← ei]
        simpa using h3
      show (h2.jobs.set q.2.2 _)[p.2.2]? = _
      rw [e2j, List.getElem?_set_ne (Ne.symm h3), List.getElem?_set_ne (Ne.symm h3)]
      exact s.opn p h1
    · have e : (h2.jobs.set q.2.2 (JobS.stepDone { oj q.1 q.2.1 with held := some g } h2.here))[i]? = some j := e
      rcases set_get e with ⟨rfl, rfl, _⟩ | ⟨hne, e⟩
      · exact ⟨rfl, .inr rfl⟩
      · rw [e2j] at e
        rcases set_get e with ⟨y, _, _⟩ | ⟨_, e⟩
        · exact absurd y hne
        · obtain ⟨a, b⟩ := s.rest i j e
          refine ⟨a, b.imp (fun ⟨p, hp, ep⟩ => ⟨p, List.mem_filter.mpr ⟨hp, ?_⟩, ep⟩) id⟩
          rw [ei]
          simp only [decide_eq_true_eq]
          rw [ep]
          exact hne
  unfold HouseS.done
  rw [el]
  simp only
  generalize (((h2.note (.tuple [S' "done", N' g])).closed ⟨g, q.2.2, 0, zX, t + 5⟩).jobUp q.2.2 fun j => j.stepDone h2.here) = h3 at z
  split
  · have em : (h3.jobs.map fun o => if q.2.2 ∈ o.needs then { o with free := h2.here } else o) = h3.jobs := by
      have : ∀ o ∈ h3.jobs, (if q.2.2 ∈ o.needs then { o with free := h2.here } else o) = o := fun o ho => by
        obtain ⟨i, hi, ei⟩ := List.getElem_of_mem ho
        have := (z.rest i o (by rw [← ei]; exact List.getElem?_eq_getElem hi)).1
        rw [this, if_neg (by simp)]
      rw [List.map_congr_left this, List.map_id']
    rw [em]
    exact z
  · exact z
theorem S13.turn (s : S13 A h t L g n m) {u : Int} (hu : t ≤ u) : S13 A (h.turn u) u L g n m := by
  have e : h.turn u = { h.note (.tuple [S' "turn", I' u]) with here := u } := by
    unfold HouseS.turn
    have hn : ∀ x, HouseS.minOf (h.note (.tuple [S' "turn", I' u])).nextTicks = some x → ¬ x ≤ u := fun x z => by
      unfold HouseS.nextTicks at z
      have e1 : (h.note (.tuple [S' "turn", I' u])).cnt = [] := s.cnt
      have e2 : (h.note (.tuple [S' "turn", I' u])).clks = [] := s.clks
      rw [e1, e2] at z
      cases z
    exact turnLeft_end hn
  rw [e]
  exact ⟨rfl, s.hold, s.hands, s.age, s.rows, s.cnt, s.staff, s.clks, s.given, s.len, s.opn, s.rest, s.srt, fun q hq => Int.le_trans (s.low q hq) hu⟩
end LH
end

section
set_option Elab.async false
set_option linter.all false
set_option maxRecDepth 100000
set_option maxHeartbeats 4000000
set_option pp.maxSteps 1500
namespace LH
open PySem PySem.Spec PyProof.Rows L2 StX LamX
variable {P : Program} {w : World} {K : PySem.W.Frag} {mg : Str → Option Value} {base : Heap}
theorem S13.has {A : Int} {h : HouseS} {t : Int} {L : List LRow} {g n m : Nat} (s : S13 A h t L g n m) : h.has zX := by
  unfold HouseS.has
  rw [s.staff]
  exact ⟨_, rfl⟩
theorem s13_new {A : Int} : S13 A (((newHouse [⟨0, zA, 1, 99⟩] 5 2 1 A).join zX [zA]).add 0 0 [zA] [] 3) 0 [(0, 0, 0)] 0 1 0 := by
  refine ⟨rfl, rfl, rfl, rfl, ⟨[], rfl, Nat.le_refl _⟩, rfl, rfl, rfl, rfl, rfl, fun q hq => ?_, fun i j e => ?_, by simp, fun q hq => ?_⟩
  · rw [List.mem_singleton.mp hq]
    rfl
  · have e : ([(⟨0, 0, [zA], [], 3, 0, 0, 0, none, none, 0⟩ : JobS)])[i]? = some j := e
    cases i with
    | zero =>
      rw [← Option.some.inj e]
      exact ⟨rfl, .inl ⟨_, List.mem_singleton.mpr rfl, rfl⟩⟩
    | succ i => simp at e
  · rw [List.mem_singleton.mp hq]
    exact Int.le_refl _
theorem newHouse_a {t u : Addr} {k : Str} {x y hold pause hands age : Int} : newHouse [⟨t, k, x, y⟩] hold pause hands age = newHouse [⟨u, k, x, y⟩] hold pause hands age := rfl
@[irreducible] def sp__law_taken_at (K : PySem.W.Frag) : Sp := fun vs H Q E => ∃ (A R : Int) (n : Nat), vs = [.int A, .int R, .int (n : Int)] ∧ (0 ≤ A ∧ A ≤ 99) ∧ (0 ≤ R ∧ R ≤ 9) ∧ n ≤ 60 ∧ Tabs (TT K) H ∧ ∀ H', Tabs (TT K) H' → Q (optN (res13 A R n)) H'
theorem sc__law_taken_at : FnScope ["_law_older", "_law_rank", "_law_until", "_law_house", "_law_tick", "_law_found"] ["_law_older", "_law_rank", "_law_until"] (defScope s__law_taken_at) := ⟨rfl, rfl, rfl, by decide +kernel, rfl, by decide +kernel, by decide +kernel⟩
theorem Tp.ok__law_taken_at (T : Tp P w K mg base) : FnR P w K mg base (L2.CX P w) (190 + 1) (He.ga K "_law_taken_at") (sp__law_taken_at K) := by
  refine fnr (N := ["_law_older", "_law_rank", "_law_until", "_law_house", "_law_tick", "_law_found"]) (ps := ["_law_older", "_law_rank", "_law_until"]) (k := 190) T.fd__law_taken_at sc__law_taken_at (fun _ _ _ _ _ _ us hl => match us, hl with | [_, _, _], _ => rfl) (fun vs H Q E h => ?_) fun cdv A outer s H vs Q E hr h => ?_
  · unfold sp__law_taken_at at h
    obtain ⟨_, _, _, rfl, _⟩ := h
    rfl
  obtain ⟨fd_add_0, F_add_0, mv_add_0, K_add_0⟩ := T.kb_add_0
  obtain ⟨fd_House_hold_age, F_House_hold_age, mv_House_hold_age, K_House_hold_age⟩ := T.kb_House_hold_age
  unfold sp__law_taken_at at h
  obtain ⟨A, R, n, rfl, bA, bR, bn, tb, q⟩ := h
  refine ⟨_, (pss_cons (ps_set (i := 3) sc__law_taken_at.nd rfl (by first | exact .inl rfl | exact .inr rfl) (pe_makeK T.mk_House F_House_hold_age (rm hr) rfl T.g_House K_House_hold_age passE (pa_cons (pe_tup (pa_cons (pe_tup (pa_cons pe_str (pa_cons pe_int (pa_cons pe_int pa_nil)))) pa_nil)) pa_nil) (pk_cons pe_int (pk_cons (pv 0) pk_nil))))
      (pss_cons (ps_expr (pe_methR (pv 3) T.c_House T.m_House_join T.ok_House_join (rm hr) passE (pa_cons pe_str (pa_cons (pe_tup (pa_cons pe_str pa_nil)) pa_nil))))
      (pss_cons (ps_expr (pe_methN (pv 3) T.c_House T.m_House_add F_add_0 (rm hr) K_add_0 passE (pa_cons pe_int (pa_cons pe_int (pa_cons (pe_tup (pa_cons pe_str pa_nil)) (pa_cons (pe_tup pa_nil) pa_nil)))) pk_nil))
      (pss_cons (ps_for passOwnE rfl (pi_range1 rfl T.f_range (pa_cons (pv 2) pa_nil)) (pg_name (i := 4) sc__law_taken_at.nd rfl (by first | exact .inl rfl | exact .inr rfl)) (pss_cons (ps_expr (pe_methN (pv 3) T.c_House T.m_House_add F_add_0 (rm hr) K_add_0 passE (pa_cons (pv 1) (pa_cons (pv 4) (pa_cons (pe_tup (pa_cons pe_str pa_nil)) (pa_cons (pe_tup pa_nil) pa_nil)))) pk_nil))
      (pss_cons (ps_expr (pe_methN (pv 3) T.c_House T.m_House_add F_add_0 (rm hr) K_add_0 passE (pa_cons (pv 1) (pa_cons (pv 4) (pa_cons (pe_tup (pa_cons pe_str pa_nil)) (pa_cons (pe_tup pa_nil) pa_nil)))) pk_nil))
      (pss_cons (ps_set (i := 5) sc__law_taken_at.nd rfl (by first | exact .inl rfl | exact .inr rfl) (pe_methR (pv 3) T.c_House T.m_House_take T.ok_House_take (rm hr) passE (pa_cons pe_str pa_nil)))
      (pss_cons (ps_if (pt_cmpR op_eq (pe_ix ix_tup (pv 5) pe_int (fun _ _ => rfl)) pe_int (nomark _)) (pss_one (ps_ret (pv 4))) pss_nil)
      (pss_cons (ps_expr (pe_methR (pv 3) T.c_House T.m_House_done T.ok_House_done (rm hr) passE (pa_cons (pe_ix ix_tup (pv 5) pe_int (fun _ _ => rfl)) pa_nil)))
      (pss_one (ps_expr (pe_methR (pv 3) T.c_House T.m_House_turn T.ok_House_turn (rm hr) passE (pa_cons (pe_op op_add (pv 4) pe_int) pa_nil))))))))))
      (pss_one (ps_ret pe_non)))))), ?_⟩
  refine ⟨by show 3 ≤ sizeLine; decide, fun t1 ht1 => ⟨by show 1 ≤ sizeLine; decide, fun t2 ht2 => ⟨_, rfl, rfl, rfl, fun x dx hx hdx hne => ?_⟩⟩⟩
  have lb0 : LB K H H [] := .start tb
  have sm := Same.trans' (same_new (o := .tup [.str zA, .int 1, .int 99]) ht1) (Same.trans' (same_new (o := .tup [.ref t1]) ht2) (Same.trans' (same_new (o := .own x) hdx) (same_new (o := .ins (cH K) dx []) (by rw [upd_ne hne.symm]; exact hx))))
  have lb5 := lb0.same sm
  have n12 : H x = none := none_same (same_new ht1) (none_same (same_new ht2) hx)
  have hx0 : Fresh0 H x := Fresh0.of (fun o h1 h2 => h1) n12
  have hpl : PlanAt K (upd (upd (upd (upd H t1 (.tup [.str zA, .int 1, .int 99])) t2 (.tup [.ref t1])) dx (.own x)) x (.ins (cH K) dx [])) t2 [⟨t1, zA, 1, 99⟩] := by
    have sm2 := Same.trans' (same_new (o := .own x) hdx) (same_new (o := .ins (cH K) dx []) (by rw [upd_ne hne.symm]; exact hx))
    exact plan_one (KeepT.same sm2 _ _ (SqT.of upd_same)) (KeepT.same (Same.trans' (same_new (o := .tup [.ref t1]) ht2) sm2) _ _ (SqT.of upd_same))
  show sp_House___init__ K [.ref x, .ref t2, .int 5, .int 2, .int 1, .int A] _ _ _
  refine LB.houseP lb5 hx0 (fun q hq => nomatch hq) upd_same hpl ⟨by simp, by simp, (fun r hr => by rw [List.mem_singleton.mp hr]; exact ⟨by kernel_rfl, ⟨by show (1 : Int) ≤ 1; decide, by show (1 : Int) ≤ 9; decide⟩, ⟨by show (1 : Int) ≤ 99; decide, by show (99 : Int) ≤ 99; decide⟩⟩), by simp⟩ (by omega) (by omega) (by omega) bA fun H6 s6 k6 => ⟨rfl, ?_⟩
  refine ⟨_, rfl, s6.hm (fun _ => by kernel_rfl) ⟨by show 1 ≤ sizeLine; decide, fun t3 ht3 => ?_⟩⟩
  have s7 := s6.same (same_new (o := .tup (vstrs [zA])) ht3)
  refine s7.join (x := zX) (ks := [zA]) (by kernel_rfl) rfl (SqT.of upd_same) (by simp) (by simp) (by simp) (rowsB_of (by kernel_rfl)) fun H8 s8 k8 => ?_
  refine ⟨_, rfl, s8.hm (fun _ => by kernel_rfl) ⟨by show 1 ≤ sizeLine; decide, fun t4 ht4 => ?_⟩⟩
  have s9 := s8.same (same_new (o := .tup (vstrs [zA])) ht4)
  refine ⟨by show 0 ≤ sizeLine; decide, fun t5 ht5 => ⟨rfl, rfl, ?_⟩⟩
  have sm5 := same_new (o := .tup (vnats [])) ht5
  have s10 := s9.same sm5
  show sp_House_add K [.ref _, .int 0, .int 0, .ref t4, .ref t5, .int 3] _ _ _
  refine LP.add (z := 0) s10 (steps := [zA]) (needs := []) (by omega) (by omega) (KeepT.same sm5 _ _ (SqT.of upd_same)) (by simp) (rowsB_of (by kernel_rfl)) (SqT.of upd_same) (by simp) (by simp) (by simp) (by omega) (.inl rfl) fun H11 s11 k11 => ?_
  have o0 := s13_new (A := A)
  have ex : ∃ h, LP K H H11 x h 8898 120 [] ∧ S13 A h 0 [(0, 0, 0)] 0 1 0 := ⟨_, s11, o0⟩
  clear s11 o0 s10 sm5 s9 s8 s7 s6 lb5 hpl sm
  obtain ⟨h11, s11, o0⟩ := ex
  refine ⟨_, rfl, (n : Int), rfl, by omega, by omega, ?_⟩
  rw [Int.toNat_natCast]
  refine for_range (n := n) (fun i σ H' => ∃ (h : HouseS) (z : Nat) (x1 x2 : Option V), σ = [some (.int A), some (.int R), some (.int (n : Int)), some (.ref x), x1, x2] ∧ LP K H H' x h z 120 [] ∧ S13 A h i (stL A R i) i (1 + 2 * i) i ∧ (∀ s < i, fst13 A R s ≠ 0) ∧ 8898 ≤ z + 5 * i) ?_ ?_ ?_
  · exact ⟨h11, 8898, _, _, rfl, s11, o0, fun s hs => absurd hs (Nat.not_lt_zero s), by omega⟩
  · rintro i σ H13 hi ⟨h, z, x1, x2, rfl, sp, so, nz, hz⟩
    have e0 : (0 : Int) + (i : Int) = (i : Int) := Int.zero_add _
    dsimp only
    rw [e0]
    obtain ⟨z', rfl⟩ : ∃ z', z = z' + 5 := ⟨z - 5, by omega⟩
    have add1 : ∀ {H' : Hp} {h : HouseS} {L : List LRow} {k z : Nat} {Q : VK} {E : XK} {ta tb : Addr}, LP K H H' x h (z + 1) 120 [] → S13 A h i L i k i → SqT K H' ta (vstrs [zA]) → SqT K H' tb (vnats []) → (∀ H2 h2 v, LP K H H2 x h2 z 120 [] → S13 A h2 i (L ++ [(R, (i : Int), k)]) i (k + 1) i → Q v H2) →
        sp_House_add K [.ref x, .int R, .int (i : Int), .ref ta, .ref tb, .int 3] H' Q E := fun {H' h L k z Q E ta tb} s so h1 h2 q => by
      have hr : h.row zA ≠ none := by
        obtain ⟨ts, er, _⟩ := so.rows
        unfold HouseS.row
        rw [er]
        simp
      refine LP.add (z := 0) s (steps := [zA]) (needs := []) bR (by omega) h1 (by simp) (fun y hy => ?_) h2 (by simp) (by simp) (by simp) (by omega) (.inl rfl) fun H2 s2 k2 => q H2 _ _ s2 so.add
      rw [List.mem_singleton.mp hy]
      exact Option.ne_none_iff_exists'.mp hr
    refine ⟨_, rfl, sp.hm (fun _ => by kernel_rfl) ⟨_, rfl, _, rfl, by show 1 ≤ sizeLine; decide, fun t4 ht4 => ⟨by show 0 ≤ sizeLine; decide, fun t5 ht5 => ⟨rfl, rfl, ?_⟩⟩⟩⟩
    refine add1 ((sp.same (same_new (o := .tup (vstrs [zA])) ht4)).same (same_new (o := .tup (vnats [])) ht5)) so (KeepT.same (same_new ht5) _ _ (SqT.of upd_same)) (SqT.of upd_same) fun H14 h14 v14 s14 o14 => ?_
    refine ⟨_, rfl, s14.hm (fun _ => by kernel_rfl) ⟨_, rfl, _, rfl, by show 1 ≤ sizeLine; decide, fun t6 ht6 => ⟨by show 0 ≤ sizeLine; decide, fun t7 ht7 => ⟨rfl, rfl, ?_⟩⟩⟩⟩
    refine add1 ((s14.same (same_new (o := .tup (vstrs [zA])) ht6)).same (same_new (o := .tup (vnats [])) ht7)) o14 (KeepT.same (same_new ht7) _ _ (SqT.of upd_same)) (SqT.of upd_same) fun H15 h15 v15 s15 o15 => ?_
    have eL : stL A R i ++ [(R, (i : Int), 1 + 2 * i)] ++ [(R, (i : Int), 1 + 2 * i + 1)] = stL A R i ++ newTwo R i := by
      rw [show 1 + 2 * i + 1 = 2 + 2 * i from by omega]
      simp [newTwo]
    rw [eL] at o15
    obtain ⟨f, ef, hf, et, hg, og⟩ := o15.go (by simp [newTwo]) (by omega)
    refine ⟨_, rfl, s15.hm (fun _ => by kernel_rfl) (s15.take o15.has fun H16 v16 s16 k16 d16 => ?_)⟩
    rw [et] at d16
    obtain ⟨t8, rfl, hq⟩ : ∃ t8, v16 = .ref t8 ∧ SqT K H16 t8 [.int (f : Nat), .int (0 : Nat), .int (i : Nat), .int ((i : Int) + 5)] := by
      cases d16 with
      | tup h1 h2 =>
        cases h2 with
        | cons a1 h2 => cases a1; cases h2 with
          | cons a1 h2 => cases a1; cases h2 with
            | cons a1 h2 => cases a1; cases h2 with
              | cons a1 h2 => cases a1; cases h2; exact ⟨_, rfl, h1⟩
    refine ⟨_, rfl, t8, _, 0, _, rfl, rfl, hq, rfl, rfl, _, rfl, ?_⟩
    by_cases h0 : f = 0
    · refine dT (by rw [h0]; rfl) ?_
      refine ⟨_, rfl, ?_⟩
      have := q H16 s16.tabs
      rw [res13_some hi nz (by rw [← h0, ef]; rfl)] at this
      exact this
    · refine dF (fun z => h0 (by have := V.int.inj z; omega)) ?_
      refine ⟨_, rfl, s16.hm (fun _ => by kernel_rfl) ⟨_, rfl, t8, _, 2, _, rfl, rfl, hq, rfl, s16.done (k := i) hg fun H17 s17 k17 => ?_⟩⟩
      have o17 := og.turn (u := (i : Int) + 1) (by omega)
      refine ⟨_, rfl, s17.hm (fun _ => by kernel_rfl) ⟨_, rfl, _, _, rfl, rfl, s17.turn (by rw [og.here]; omega) fun H18 s18 k18 => ?_⟩⟩
      refine ⟨_, z', _, _, rfl, s18, ?_, fun s hs => ?_, by omega⟩
      · have e1 : ((i + 1 : Nat) : Int) = (i : Int) + 1 := by omega
        rw [e1, show 1 + 2 * (i + 1) = 1 + 2 * i + 1 + 1 from by omega]
        exact o17
      · rcases Nat.lt_succ_iff_lt_or_eq.mp hs with z | z
        · exact nz s z
        · rw [z]
          intro z2
          exact h0 (by rw [ef]; exact z2)
  · rintro σ H13 ⟨h, z, x1, x2, rfl, sp, so, nz, hz⟩
    have := q H13 sp.tabs
    rw [res13_none nz] at this
    exact this
end LH
end

section
set_option Elab.async false
set_option linter.all false
set_option maxRecDepth 100000
set_option maxHeartbeats 4000000
set_option pp.maxSteps 1500
namespace LH
open PySem PySem.Spec PyProof.Rows L2 StX LamX PySem.W
variable {P : Program} {w : World} {K : PySem.W.Frag} {mg : Str → Option Value} {base : Heap}
abbrev ARow := Addr × LRow
def rowV (q : LRow) : List V := [.int q.1, .int q.2.1, .int (q.2.2 : Int)]
def aref (z : ARow) : V := .ref z.1
structure LeftAt (K : PySem.W.Frag) (H : Hp) (l : Addr) (Z : List ARow) : Prop where
  at_ : H l = some (.lst (Z.map aref))
  rows : ∀ z ∈ Z, SqT K H z.1 (rowV z.2)
theorem LeftAt.same {H H' : Hp} {l : Addr} {Z : List ARow} (h : LeftAt K H l Z) (s : Same H H') : LeftAt K H' l Z := ⟨s _ _ h.at_, fun z hz => KeepT.same s _ _ (h.rows z hz)⟩
/-- the tuple of what it is sorted by -/
def keyV (A t : Int) (q : LRow) : List V := [.int (-q.1 - moreOf A t q), .int q.2.1, .int (q.2.2 : Int)]
@[irreducible] def sp__law_due (K : PySem.W.Frag) : Sp := fun vs H Q E => ∃ (A R : Int) (n : Nat), vs = [.int A, .int R, .int (n : Int)] ∧ (0 ≤ A ∧ A ≤ 99) ∧ (0 ≤ R ∧ R ≤ 9) ∧ n ≤ 60 ∧ ∀ H', Same H H' → Q (optN (res13 A R n)) H'
theorem sc__law_due : FnScope ["_law_older", "_law_rank", "_law_until", "_law_left", "_law_tick", "_law_more", "_law_order", "_law_row", "_law_k"] ["_law_older", "_law_rank", "_law_until"] (defScope s__law_due) := ⟨rfl, rfl, rfl, by decide +kernel, rfl, by decide +kernel, by decide +kernel⟩
theorem Tp.ok__law_due (T : Tp P w K mg base) : FnR P w K mg base (L2.CX P w) (1 + 1) (He.ga K "_law_due") (sp__law_due K) := by
  refine fnr (N := ["_law_older", "_law_rank", "_law_until", "_law_left", "_law_tick", "_law_more", "_law_order", "_law_row", "_law_k"]) (ps := ["_law_older", "_law_rank", "_law_until"]) (k := 1) T.fd__law_due sc__law_due (fun _ _ _ _ _ _ us hl => match us, hl with | [_, _, _], _ => rfl) (fun vs H Q E h => ?_) fun cdv A outer s H vs Q E hr h => ?_
  · unfold sp__law_due at h
    obtain ⟨_, _, _, rfl, _⟩ := h
    rfl
  unfold sp__law_due at h
  obtain ⟨A, R, n, rfl, bA, bR, bn, q⟩ := h
  refine ⟨_, (pss_cons (ps_set (i := 3) sc__law_due.nd rfl (by first | exact .inl rfl | exact .inr rfl) (pe_lst (pa_cons (pe_tup (pa_cons pe_int (pa_cons pe_int (pa_cons pe_int pa_nil)))) pa_nil)))
      (pss_cons (ps_for passOwnE rfl (pi_range1 rfl T.f_range (pa_cons (pv 2) pa_nil)) (pg_name (i := 4) sc__law_due.nd rfl (by first | exact .inl rfl | exact .inr rfl)) (pss_cons (ps_set (i := 3) sc__law_due.nd rfl (by first | exact .inl rfl | exact .inr rfl) (pe_op op_cat (pv 3) (pe_lst (pa_cons (pe_tup (pa_cons (pv 1) (pa_cons (pv 4) (pa_cons (pe_op op_add pe_int (pe_op op_mul pe_int (pv 4))) pa_nil)))) (pa_cons (pe_tup (pa_cons (pv 1) (pa_cons (pv 4) (pa_cons (pe_op op_add pe_int (pe_op op_mul pe_int (pv 4))) pa_nil)))) pa_nil)))))
      (pss_cons (ps_set (i := 5) sc__law_due.nd rfl (by first | exact .inl rfl | exact .inr rfl) (pe_lc (own := [("_law_row", 7)]) rfl sc__law_due.nd (pi_list (pv 3)) (blkOk_by (own := [("_law_row", 7)]) (N := ["_law_older", "_law_rank", "_law_until", "_law_left", "_law_tick", "_law_more", "_law_order", "_law_row", "_law_k"]) (sc := defScope s__law_due) (by decide +kernel)) (fun _ _ _ _ _ => (pg_name (i := 7) sc__law_due.nd rfl (by first | exact .inl rfl | exact .inr rfl))) (fun _ _ _ _ _ => pts_nil) (fun _ _ _ _ _ => (pe_ifExp (pt_cmpR op_gt (pv 0) pe_int (nomark _)) (pe_op op_fdiv (pe_op op_sub (pv 4) (pe_ix (ix_tupK K rfl) (pv 7) pe_int (fun _ _ => rfl))) (pv 0)) pe_int))))
      (pss_cons (ps_set (i := 6) sc__law_due.nd rfl (by first | exact .inl rfl | exact .inr rfl) (pe_callB (cr_sortD hr) rfl T.f_sorted bt_sorted (pa_cons (pe_lc (own := [("_law_k", 8)]) rfl sc__law_due.nd (pi_range1 rfl T.f_range (pa_cons (pe_callB call_len_seq rfl T.f_len bt_len (pa_cons (pv 3) pa_nil)) pa_nil)) (blkOk_by (own := [("_law_k", 8)]) (N := ["_law_older", "_law_rank", "_law_until", "_law_left", "_law_tick", "_law_more", "_law_order", "_law_row", "_law_k"]) (sc := defScope s__law_due) (by decide +kernel)) (fun _ _ _ _ _ => (pg_name (i := 8) sc__law_due.nd rfl (by first | exact .inl rfl | exact .inr rfl))) (fun _ _ _ _ _ => pts_nil) (fun _ _ _ _ _ => (pe_tup (pa_cons (pe_op op_sub (pe_un un_neg (pe_ix (ix_tupK K rfl) (pe_ix (ix_listK K rfl) (pv 3) (pv 8) (fun _ _ => rfl)) pe_int (fun _ _ => rfl))) (pe_ix (ix_listK K rfl) (pv 5) (pv 8) (fun _ _ => rfl))) (pa_cons (pe_ix (ix_tupK K rfl) (pe_ix (ix_listK K rfl) (pv 3) (pv 8) (fun _ _ => rfl)) pe_int (fun _ _ => rfl)) (pa_cons (pe_ix (ix_tupK K rfl) (pe_ix (ix_listK K rfl) (pv 3) (pv 8) (fun _ _ => rfl)) pe_int (fun _ _ => rfl)) pa_nil)))))) pa_nil)))
      (pss_cons (ps_if (pt_cmpR op_eq (pe_ix ix_tup (pe_ix ix_list (pv 6) pe_int (fun _ _ => rfl)) pe_int (fun _ _ => rfl)) pe_int (nomark _)) (pss_one (ps_ret (pv 4))) pss_nil)
      (pss_one (ps_set (i := 3) sc__law_due.nd rfl (by first | exact .inl rfl | exact .inr rfl) (pe_lc (own := [("_law_row", 7)]) rfl sc__law_due.nd (pi_list (pv 3)) (blkOk_by (own := [("_law_row", 7)]) (N := ["_law_older", "_law_rank", "_law_until", "_law_left", "_law_tick", "_law_more", "_law_order", "_law_row", "_law_k"]) (sc := defScope s__law_due) (by decide +kernel)) (fun _ _ _ _ _ => (pg_name (i := 7) sc__law_due.nd rfl (by first | exact .inl rfl | exact .inr rfl))) (fun _ _ _ _ _ => (pts_one (pt_cmpR op_ne (pe_ix (ix_tupK K rfl) (pv 7) pe_int (fun _ _ => rfl)) (pe_ix (ix_tupK K rfl) (pe_ix (ix_listK K rfl) (pv 6) pe_int (fun _ _ => rfl)) pe_int (fun _ _ => rfl)) (nomark _)))) (fun _ _ _ _ _ => (pv 7))))))))))
      (pss_one (ps_ret pe_non)))), ?_⟩
  refine ⟨by show 3 ≤ sizeLine; decide, fun t1 ht1 => ⟨by show 1 ≤ sizeLine; decide, fun l1 hl1 => ?_⟩⟩
  refine ⟨_, rfl, (n : Int), rfl, by omega, by omega, ?_⟩
  rw [Int.toNat_natCast]
  refine for_range (n := n) (fun i σ H' => ∃ (l : Addr) (Z : List ARow) (x1 x2 x3 x4 x5 : Option V), σ = [some (.int A), some (.int R), some (.int (n : Int)), some (.ref l), x1, x2, x3, x4, x5] ∧ Same H H' ∧ LeftAt K H' l Z ∧ Z.map (·.2) = stL A R i ∧ (∀ s < i, fst13 A R s ≠ 0)) ?_ ?_ ?_
  · refine ⟨l1, [(t1, (0, 0, 0))], _, _, _, _, _, rfl, Same.trans' (same_new ht1) (same_new hl1), ⟨upd_same, fun z hz => ?_⟩, rfl, fun s hs => absurd hs (Nat.not_lt_zero s)⟩
    rw [List.mem_singleton.mp hz]
    exact KeepT.same (same_new hl1) _ _ (SqT.of upd_same)
  · rintro i σ H13 hi ⟨l, Z, x1, x2, x3, x4, x5, rfl, sm, la, eZ, nz⟩
    have e0 : (0 : Int) + (i : Int) = (i : Int) := Int.zero_add _
    have sok := stL_ok A R i
    have slen := stL_len A R i
    dsimp only
    rw [e0]
    refine ⟨_, rfl, _, rfl, _, rfl, _, rfl, _, _, rfl, rfl, .inr ⟨by omega, by omega⟩, _, _, rfl, rfl, by show 3 ≤ sizeLine; decide, fun t2 ht2 => ?_⟩
    refine ⟨_, rfl, _, rfl, _, rfl, _, _, rfl, rfl, .inr ⟨by omega, by omega⟩, _, _, rfl, rfl, by show 3 ≤ sizeLine; decide, fun t3 ht3 => ⟨by show 2 ≤ sizeLine; decide, fun l2 hl2 => ?_⟩⟩
    have sm3 := Same.trans' (same_new (o := .tup [.int R, .int (i : Int), .int (1 + 2 * (i : Int))]) ht2) (Same.trans' (same_new (o := .tup [.int R, .int (i : Int), .int (2 + 2 * (i : Int))]) ht3) (same_new (o := .lst [.ref t2, .ref t3]) hl2))
    have la2 := la.same sm3
    have zlen : Z.length ≤ 1 + 2 * i := by rw [← List.length_map (f := fun z : ARow => z.2), eZ]; exact slen
    have big : 200 ≤ sizeLine := by decide
    refine ⟨l, l2, _, _, rfl, rfl, la2.at_, upd_same, by simp only [List.length_map, List.length_cons, List.length_nil]; omega, fun l3 hl3 => ?_⟩
    have sm4 := Same.trans' sm3 (same_new (o := .lst (Z.map aref ++ [.ref t2, .ref t3])) hl3)
    have lb : LeftAt K (upd (upd (upd (upd H13 t2 (.tup [.int R, .int (i : Int), .int (1 + 2 * (i : Int))])) t3 (.tup [.int R, .int (i : Int), .int (2 + 2 * (i : Int))])) l2 (.lst [.ref t2, .ref t3])) l3 (.lst (Z.map aref ++ [.ref t2, .ref t3]))) l3 (Z ++ [(t2, (R, (i : Int), 1 + 2 * i)), (t3, (R, (i : Int), 2 + 2 * i))]) := by
      refine ⟨by rw [upd_same, List.map_append]; rfl, fun z hz => ?_⟩
      rcases List.mem_append.mp hz with y | y
      · exact KeepT.same sm4 _ _ (la.rows z y)
      · simp only [List.mem_cons, List.not_mem_nil, or_false] at y
        rcases y with rfl | rfl
        · exact KeepT.same (Same.trans' (same_new ht3) (Same.trans' (same_new hl2) (same_new hl3))) _ _ (SqT.of (by rw [upd_same]; rfl))
        · exact KeepT.same (Same.trans' (same_new hl2) (same_new hl3)) _ _ (SqT.of (by rw [upd_same]; rfl))
    have eF : (Z ++ [(t2, (R, (i : Int), 1 + 2 * i)), (t3, (R, (i : Int), 2 + 2 * i))]).map (·.2) = stL A R i ++ newTwo R i := by rw [List.map_append, eZ]; rfl
    have fok := sok.two
    have sm5 := Same.trans' sm sm4
    have zl2 : (Z ++ [(t2, (R, (i : Int), 1 + 2 * i)), (t3, (R, (i : Int), 2 + 2 * i))]).length ≤ 3 + 2 * i := by rw [List.length_append]; show Z.length + 2 ≤ _; omega
    generalize upd (upd (upd (upd H13 t2 (.tup [.int R, .int (i : Int), .int (1 + 2 * (i : Int))])) t3 (.tup [.int R, .int (i : Int), .int (2 + 2 * (i : Int))])) l2 (.lst [.ref t2, .ref t3])) l3 (.lst (Z.map aref ++ [.ref t2, .ref t3])) = H14 at lb sm5 ⊢
    clear la la2 sm4 sm3 sm eZ zlen sok slen
    generalize Z ++ [(t2, (R, (i : Int), 1 + 2 * i)), (t3, (R, (i : Int), 2 + 2 * i))] = Y at lb eF zl2 ⊢
    generalize eL : stL A R i ++ newTwo R i = L at eF fok
    have ymem : ∀ z ∈ Y, z.2 ∈ L := fun z hz => by rw [← eF]; exact List.mem_map_of_mem hz
    refine ⟨_, rfl, _, rfl, ⟨_, SqL.of lb.at_⟩, lcL Y aref (fun z => some (.int (moreOf A i z.2))) rfl (SqL.of lb.at_) (by omega) ?_ ?_⟩
    · intro j z Hc R' R0 ez s k1 k2
      have hz := List.mem_of_getElem? ez
      have hr := KeepT.same s _ _ (lb.rows z hz)
      have htp := fok.top _ (ymem z hz)
      refine ⟨rfl, _, rfl, _, _, rfl, rfl, _, rfl, ?_⟩
      by_cases hA : A > 0
      · refine dT hA ?_
        refine ⟨_, rfl, _, rfl, z.1, _, 1, _, rfl, rfl, hr, rfl, _, _, rfl, rfl, _, rfl, _, _, rfl, rfl, ⟨by omega, by omega⟩, k1 _ _ ?_ Same.rfl'⟩
        unfold moreOf
        rw [if_pos hA]
      · refine dF hA (k1 _ _ ?_ Same.rfl')
        unfold moreOf
        rw [if_neg hA]
    · intro D H15 hD s15 e15
      have e15 : H15 D = some (.lst (Y.map fun z => V.int (moreOf A i z.2))) := by
        rw [e15, List.filterMap_eq_map']
      have lb5 := lb.same s15
      refine gnI ⟨_, rfl, l3, _, rfl, .inl (SqL.of lb5.at_), (Y.length : Int), ?_, by omega, by omega, ?_⟩
      · rw [List.length_map]
      rw [Int.toNat_natCast]
      refine fun D2 hD2 => lc_range (lo := 0) (n := Y.length) (fun j H' => Same H15 H' ∧ ∃ Q' : List ARow, H' D2 = some (.lst (Q'.map aref)) ∧ (∀ y ∈ Q', SqT K H' y.1 (keyV A i y.2)) ∧ Q'.map (·.2) = L.take j) ⟨same_new hD2, [], upd_same, (fun y hy => nomatch hy), rfl⟩ ?_ ?_
      · rintro j H16 hj ⟨s16, Y2, e16, r16, m16⟩
        have ej : (0 : Int) + (j : Int) = (j : Int) := Int.zero_add _
        rw [ej]
        have ez : Y[j]? = some Y[j] := List.getElem?_eq_getElem hj
        have hz : Y[j] ∈ Y := List.getElem_mem hj
        have lb6 := lb5.same s16
        have hr := lb6.rows _ hz
        have eA : (Y.map aref)[j]? = some (aref Y[j]) := by rw [List.getElem?_map, ez]; rfl
        have eM : (Y.map fun z => V.int (moreOf A i z.2))[j]? = some (.int (moreOf A i Y[j].2)) := by rw [List.getElem?_map, ez]; rfl
        refine ⟨rfl, _, rfl, _, rfl, l3, _, _, _, rfl, rfl, SqL.of lb6.at_, atI_nat eA, Y[j].1, _, 0, _, rfl, rfl, hr, rfl, _, rfl, ?_⟩
        refine ⟨_, rfl, _, rfl, D, _, _, _, rfl, rfl, SqL.of (s16 _ _ e15), atI_nat eM, _, _, rfl, rfl, ?_⟩
        refine ⟨_, rfl, _, rfl, l3, _, _, _, rfl, rfl, SqL.of lb6.at_, atI_nat eA, Y[j].1, _, 1, _, rfl, rfl, hr, rfl, ?_⟩
        refine ⟨_, rfl, _, rfl, l3, _, _, _, rfl, rfl, SqL.of lb6.at_, atI_nat eA, Y[j].1, _, 2, _, rfl, rfl, hr, rfl, ?_⟩
        refine ⟨by show 3 ≤ sizeLine; decide, fun t6 ht6 => ?_⟩
        have s7 := same_new (o := .tup [.int (-Y[j].2.1 - moreOf A i Y[j].2), .int Y[j].2.2.1, .int (Y[j].2.2.2 : Int)]) ht6
        have l2 : Y2.length = min j L.length := by rw [← List.length_map (f := fun z : ARow => z.2), m16, List.length_take]
        have yl : Y2.length ≤ 200 := by
          have : L.length = Y.length := by rw [← eF, List.length_map]
          omega
        have hne6 : t6 ≠ D2 := fun z => by rw [z, e16] at ht6; cases ht6
        refine ⟨_, s7 _ _ e16, by rw [List.length_map]; omega, Same.put (Same.trans' s16 s7) hD2, Y2 ++ [(t6, Y[j].2)], ?_, fun y hy => ?_, ?_⟩
        · rw [upd_same, List.map_append]
          rfl
        · have kt : KeepT K H16 (upd (upd H16 t6 (.tup [.int (-Y[j].2.1 - moreOf A i Y[j].2), .int Y[j].2.2.1, .int (Y[j].2.2.2 : Int)])) D2 (.lst (Y2.map aref ++ [.ref t6]))) := fun b xs h => KeepT.upd (s7 _ _ e16) trivial _ _ (KeepT.same s7 _ _ h)
          rcases List.mem_append.mp hy with z | z
          · exact kt _ _ (r16 y z)
          · rw [List.mem_singleton.mp z]
            exact KeepT.upd (s7 _ _ e16) trivial _ _ (SqT.of upd_same)
        · rw [List.map_append, m16, List.take_succ]
          have : L[j]? = some Y[j].2 := by rw [← eF, List.getElem?_map, ez]; rfl
          rw [this]
          rfl
      · rintro H17 ⟨s17, Y2, e17, r17, m17⟩
        have m17 : Y2.map (·.2) = L := by
          rw [m17]
          exact List.take_of_length_le (by rw [← eF, List.length_map]; omega)
        refine ⟨D2, ARow, aref, fun y => keyOf A i y.2, Y2, rfl, SqL.of e17, fun y hy => .tup (r17 y hy) (.cons (.int _) (.cons (.int _) (.cons (.int _) .nil))), ?_, ?_, ?_, fun p hp => ?_⟩
        · intro d hd d' hd'
          obtain ⟨a, _, rfl⟩ := List.mem_map.mp hd
          obtain ⟨b, _, rfl⟩ := List.mem_map.mp hd'
          rfl
        · refine .inl fun d hd => ?_
          obtain ⟨a, _, rfl⟩ := List.mem_map.mp hd
          exact ⟨_, _, rfl⟩
        · intro b hb
          simp only [keyOf, PyData.depth, PyData.depthAll]
          omega
        have eW : (Y2.mergeSort (dataLe false fun y : ARow => keyOf A i y.2)).map (·.2) = isort (dataLe false (keyOf A i)) L := by
          rw [← dsort_eq, ← m17]
          exact (isort_map (le := dataLe false fun y : ARow => keyOf A i y.2) (le' := dataLe false (keyOf A i)) (f := fun z : ARow => z.2) fun a _ b _ => rfl).symm
        have hLne : L ≠ [] := by
          rw [← eL]
          simp [newTwo]
        obtain ⟨q0, r0, e0'⟩ := isort_ne (le := dataLe false (keyOf A i)) hLne
        obtain ⟨a, r, ea⟩ : ∃ a r, Y2.mergeSort (dataLe false fun y : ARow => keyOf A i y.2) = a :: r := by
          cases ew : Y2.mergeSort (dataLe false fun y : ARow => keyOf A i y.2) with
          | nil => rw [ew, e0'] at eW; cases eW
          | cons a r => exact ⟨a, r, rfl⟩
        have haY : a ∈ Y2 := List.mem_mergeSort.mp (by rw [ea]; exact List.mem_cons_self)
        have ef : fst13 A R i = a.2.2.2 := by
          unfold fst13 firstOf
          rw [eL, ← eW, ea]
          rfl
        rw [ea]
        have s18 := Same.trans' s17 (same_new (o := .lst ((a :: r).map aref)) hp)
        have lb8 := lb5.same s18
        have hka := KeepT.same (same_new (o := .lst ((a :: r).map aref)) hp) _ _ (r17 a haY)
        have ep : upd H17 p (.lst ((a :: r).map aref)) p = some (.lst (aref a :: r.map aref)) := upd_same
        have s19 := Same.trans' s15 s18
        generalize upd H17 p (.lst ((a :: r).map aref)) = H18 at lb8 hka ep s19 ⊢
        refine gnI ?_
        refine ⟨_, rfl, p, _, 0, _, rfl, rfl, SqL.of ep, at0, a.1, _, 2, _, rfl, rfl, hka, rfl, rfl, _, rfl, ?_⟩
        by_cases h0 : a.2.2.2 = 0
        · refine dT (by rw [h0]; rfl) ?_
          refine ⟨_, rfl, ?_⟩
          have := q H18 (Same.trans' sm5 s19)
          rw [res13_some hi nz (by rw [ef]; exact h0)] at this
          exact this
        · refine dF (fun z => h0 (by have := V.int.inj z; omega)) ?_
          refine ⟨_, rfl, _, rfl, ⟨_, SqL.of lb8.at_⟩, lcL Y aref (fun z => if decide (z.2.2.2 ≠ a.2.2.2) = true then some (aref z) else none) rfl (SqL.of lb8.at_) (by omega) ?_ ?_⟩
          · intro j z Hc R' R0 ez s k1 k2
            have hz := List.mem_of_getElem? ez
            have hr := KeepT.same s _ _ (lb8.rows z hz)
            refine ⟨rfl, _, rfl, z.1, _, 2, _, rfl, rfl, hr, rfl, _, rfl, p, _, 0, _, rfl, rfl, SqL.of (s _ _ ep), at0, a.1, _, 2, _, rfl, rfl, KeepT.same s _ _ hka, rfl, rfl, _, rfl, ?_⟩
            by_cases hh : z.2.2.2 = a.2.2.2
            · rw [hh]
              refine (if_neg (by simp)).mpr (k2 _ (by simp [hh]) Same.rfl')
            · refine (if_pos ?_).mpr ⟨_, rfl, k1 _ _ (by simp [hh]) Same.rfl'⟩
              simp
              omega
          · intro D3 H19 hD3 s20 e20
            have e20 : H19 D3 = some (.lst ((Y.filter fun z => decide (z.2.2.2 ≠ a.2.2.2)).map aref)) := by
              rw [e20, fm_filter]
            refine gnI ⟨D3, Y.filter fun z => decide (z.2.2.2 ≠ a.2.2.2), _, _, _, _, _, rfl, Same.trans' sm5 (Same.trans' s19 s20), ⟨e20, fun z hz => KeepT.same s20 _ _ (lb8.rows z (List.mem_filter.mp hz).1)⟩, ?_, fun s hs => ?_⟩
            · show _ = cutOf A i (stL A R i ++ newTwo R i)
              unfold cutOf
              have : firstOf A i (stL A R i ++ newTwo R i) = a.2.2.2 := ef
              rw [this, eL, ← eF, List.filter_map]
              rfl
            · rcases Nat.lt_succ_iff_lt_or_eq.mp hs with z | z
              · exact nz s z
              · rw [z, ef]
                exact h0
  · rintro σ H13 ⟨l, Z, x1, x2, x3, x4, x5, rfl, sm, la, eZ, nz⟩
    have := q H13 sm
    rw [res13_none nz] at this
    exact this
theorem due13_ok {A R : Int} {n : Nat} {H : Hp} {Q : VK} {E : XK} (bA : 0 ≤ A ∧ A ≤ 99) (bR : 0 ≤ R ∧ R ≤ 9) (bn : n ≤ 60) (q : ∀ H', Same H H' → Q (optN (res13 A R n)) H') : sp__law_due K [.int A, .int R, .int (n : Int)] H Q E := by
  unfold sp__law_due
  exact ⟨A, R, n, rfl, bA, bR, bn, q⟩
theorem taken13_ok {A R : Int} {n : Nat} {H : Hp} {Q : VK} {E : XK} (bA : 0 ≤ A ∧ A ≤ 99) (bR : 0 ≤ R ∧ R ≤ 9) (bn : n ≤ 60) (t : Tabs (TT K) H) (q : ∀ H', Tabs (TT K) H' → Q (optN (res13 A R n)) H') : sp__law_taken_at K [.int A, .int R, .int (n : Int)] H Q E := by
  unfold sp__law_taken_at
  exact ⟨A, R, n, rfl, bA, bR, bn, t, q⟩
@[irreducible] def sp_law (K : PySem.W.Frag) : Sp := fun vs H Q E => ∃ (a : Addr) (ns : List Int), vs = [.ref a] ∧ SqL K H a (vints ns) ∧ ns.length ≤ 63 ∧ Tabs (TT K) H ∧ ∀ H', Q (.bl true) H'
theorem sc_law : FnScope ["_law_script", "_law_box", "_law_older", "_law_rank", "_law_until"] ["_law_script"] (defScope s_law) := ⟨rfl, rfl, rfl, by decide +kernel, rfl, by decide +kernel, by decide +kernel⟩
theorem Tp.okF_law (T : Tp P w K mg base) {fd : FuncData} (F : FunD K "law" "law" (defArgs s_law) (defBody s_law) (defScope s_law) (He.DefD.dvs K d_law) (He.DefD.kws K d_law) (He.ga K "law") fd) : FnOk P w K mg base (L2.CX P w) (200 + 1) (He.ga K "law") fd ["_law_script"] (sp_law K) := by
  refine FunD.ok (N := ["_law_script", "_law_box", "_law_older", "_law_rank", "_law_until"]) (k := 200) F sc_law (fun vs H Q E h => ?_) fun cdv A outer s H vs Q E hr h => ?_
  · unfold sp_law at h
    obtain ⟨_, _, rfl, _⟩ := h
    rfl
  unfold sp_law at h
  obtain ⟨a, ns, rfl, ha, hl, tb, q⟩ := h
  refine ⟨_, (pss_cons (ps_set (i := 1) sc_law.nd rfl (by first | exact .inl rfl | exact .inr rfl) (pe_callP T.ok__law_begun (rm hr) (kp_of T.fd__law_begun) rfl T.g__law_begun passE (pa_cons (pv 0) pa_nil)))
      (pss_cons (ps_par (i := 2) (j := 3) rfl sc_law.nd rfl rfl (by decide) rfl rfl (pa_cons (pe_op op_add pe_int (pe_callP T.ok__law_take (rm hr) (kp_of T.fd__law_take) rfl T.g__law_take passE (pa_cons (pv 1) (pa_cons pe_int pa_nil)))) (pa_cons (pe_op op_add pe_int (pe_callP T.ok__law_take (rm hr) (kp_of T.fd__law_take) rfl T.g__law_take passE (pa_cons (pv 1) (pa_cons pe_int pa_nil)))) pa_nil)) (by rfl))
      (pss_cons (ps_set (i := 4) sc_law.nd rfl (by first | exact .inl rfl | exact .inr rfl) (pe_op op_add pe_int (pe_callP T.ok__law_take (rm hr) (kp_of T.fd__law_take) rfl T.g__law_take passE (pa_cons (pv 1) (pa_cons pe_int pa_nil)))))
      (pss_cons (ps_if (pt_not (pt_val (pe_callP (T.ok__law_alike 5) (rm hr) (kp_of T.fd__law_alike) rfl T.g__law_alike passE (pa_cons (pe_callP T.ok__law_taken_at (rm hr) (kp_of T.fd__law_taken_at) rfl T.g__law_taken_at passE (pa_cons (pv 2) (pa_cons (pv 3) (pa_cons (pv 4) pa_nil)))) (pa_cons (pe_callP T.ok__law_due (rm hr) (kp_of T.fd__law_due) rfl T.g__law_due passE (pa_cons (pv 2) (pa_cons (pv 3) (pa_cons (pv 4) pa_nil)))) pa_nil))))) (pss_one (ps_ret pe_bl)) pss_nil)
      (pss_one (ps_ret (pe_cmpR op_isN (pe_callP T.ok__law_taken_at (rm hr) (kp_of T.fd__law_taken_at) rfl T.g__law_taken_at passE (pa_cons pe_int (pa_cons (pv 3) (pa_cons (pv 4) pa_nil)))) pe_non (nomark _)))))))), ?_⟩
  refine ⟨_, rfl, lawbegun_ok ha hl fun H1 b l r s1 nb nl ne eb el => ?_⟩
  have lb1 := lb_box tb s1 nb nl ne eb el hl
  have mb : (b, boxC l) ∈ BoxF b l := by simp [BoxF]
  have ml : (l, drawC) ∈ BoxF b l := by simp [BoxF]
  refine ⟨_, rfl, lb1.draw mb ml ne (by omega) fun H2 i1 lb2 _ l1 u1 => ⟨_, _, rfl, rfl, ?_⟩⟩
  refine ⟨_, rfl, lb2.draw mb ml ne (by omega) fun H3 i2 lb3 _ l2 u2 => ⟨_, _, rfl, rfl, _, _, rfl, ?_⟩⟩
  refine ⟨_, rfl, lb3.draw mb ml ne (by omega) fun H4 i3 lb4 _ l3 u3 => ⟨_, _, rfl, rfl, ?_⟩⟩
  obtain ⟨n, hn⟩ : ∃ n : Nat, (n : Int) = 30 + i3 := ⟨(30 + i3).toNat, by omega⟩
  dsimp only
  rw [← hn]
  have bn : n ≤ 60 := by omega
  refine gnI ⟨_, rfl, _, rfl, _, rfl, taken13_ok (by omega) (by omega) bn lb4.tabs fun H5 t5 => ?_⟩
  refine ⟨_, rfl, _, rfl, _, rfl, due13_ok (by omega) (by omega) bn fun H6 s6 => ?_⟩
  have dd : ∀ {H : Hp} (o : Option Nat), Dp K H (optN o) (match o with | none => .none | some n => N' n) := fun o => by
    cases o with
    | none => exact .non
    | some n => exact .int _
  refine alike_ok (d := match res13 (1 + i1) (1 + i2) n with | none => .none | some n => N' n) (dd _) (dd _) (by cases res13 (1 + i1) (1 + i2) n <;> simp [PyData.depth]) (by cases res13 (1 + i1) (1 + i2) n <;> rfl) fun H7 s7 => ⟨_, rfl, iteF ?_⟩
  refine ⟨_, rfl, _, rfl, taken13_ok (by omega) (by omega) bn (tabs_same s7 (tabs_same s6 t5)) fun H8 t8 => ?_⟩
  rw [res13_none fun s _ => fst13_age0 (by omega) s]
  exact ⟨rfl, q _⟩
end LH
end

section
set_option Elab.async false
set_option linter.all false
set_option maxRecDepth 100000
set_option maxHeartbeats 0
namespace LH
open PySem PySem.Spec PyProof.Rows L2
def nms0 : List Str := ["_wall", "LaterError", "BadPlan", "BadCount", "BadTick", "BadRank", "BadSteps", "BadNeeds", "BadTries", "BadPart", "BadName", "BadKinds", "Taken", "NoWorker", "NoJob", "NoLease", "DONE", "DEAD", "MOST_WAIT", "doubled", "Job", "Lease", "Clock", "WINDOW", "Limits", "LETTERS", "MOST_LETTERS", "MOST_KINDS", "MOST_AT_ONCE", "MOST_RATE"]
def nms1 : List Str := ["MOST_TICK", "MOST_RANK", "MOST_STEPS", "MOST_NEEDS", "MOST_TRIES", "is_number", "is_name", "need_name", "need_count", "need_tick", "is_kind", "need_plan", "need_rank", "need_steps", "need_needs", "need_tries", "MOST_HOLD", "MOST_HANDS", "MOST_EVERY", "MOST_SHARE", "KIND", "MOST", "RATE", "HANDS", "House", "_law_begun", "_law_take", "_law_alike", "_law_taken_at", "_law_due"]
def nms : List Str := nms0 ++ nms1
/-! ### the part of the heap that the facts are read off: the module's names, then three steps down; empty tables are left out -/
def refsF (o : Obj) : List Addr := match o.data with
  | .dict es _ => es.toList.flatMap fun e => He.refV e.val
  | .func fd => He.refV fd.code ++ (He.refV fd.defaults ++ He.refV fd.kwdefaults)
  | .cls cd => [cd.ns]
  | .seq its _ => its.toList.flatMap He.refV
  | _ => []
def stepF (g : Addr → Option Obj) (as : List Addr) : List Addr := as.flatMap fun a => match g a with
  | some o => refsF o
  | none => []
def asF (g : Addr → Option Obj) : Nat → List Addr → List Addr
  | 0, l => l
  | n + 1, l => l ++ asF g n (stepF g l)
def KF (g : Addr → Option Obj) : PySem.W.Frag := He.frG g (asF g 4 [mainGlobals])
/-- a def's table of code objects is empty, is told by its code object, is no part of K -/
def tabOne (g : Addr → Option Obj) (K : PySem.W.Frag) (p : He.Defn) : Bool := PySem.W.codeHdIn K (He.cT K p).1 (He.cT K p).2 && ((K.lookup (He.cT K p).2).isNone && (match g (He.cT K p).2 with
  | some o => He.emptyTab o
  | none => false))
def tabAll (g : Addr → Option Obj) (K : PySem.W.Frag) (tf : List He.Defn) : Bool := (tf.all (tabOne g K)) && decide ((tf.map fun p => (He.cT K p).2).Nodup)
def obF (fa : List He.Fa) (fn : List He.DefD) (tf : List He.Defn) (g : Addr → Option Obj) : He.AlD × Bool := (He.obsD fa fn (KF g), tabAll g (KF g) tf)
/-- what the head says of K -/
structure SaysF (fa : List He.Fa) (fn : List He.DefD) (tf : List He.Defn) (h : Heap) (K : PySem.W.Frag) : Prop where
  d : He.SaysD fa fn K
  hd : ∀ p ∈ tf, PySem.W.codeHdIn K (He.cT K p).1 (He.cT K p).2 = true
  out : ∀ p ∈ tf, K.lookup (He.cT K p).2 = none
  empty : ∀ p ∈ tf, h.get? (He.cT K p).2 = some { cls := .none, data := .fields #[] }
  uniq : (tf.map fun p => (He.cT K p).2).Nodup
theorem saysF_of {fa : List He.Fa} {fn : List He.DefD} {tf : List He.Defn} {h : Heap} (e : obF fa fn tf h.get? = (He.valD fn, true)) : SaysF fa fn tf h (KF h.get?) := by
  have e1 : He.SaysD fa fn (KF h.get?) := congrArg Prod.fst e
  have e2 : tabAll h.get? (KF h.get?) tf = true := congrArg Prod.snd e
  obtain ⟨h1, h2⟩ := He.ba e2
  have one : ∀ p ∈ tf, tabOne h.get? (KF h.get?) p = true := List.all_eq_true.mp h1
  refine ⟨e1, fun p hp => (He.ba (one p hp)).1, fun p hp => ?_, fun p hp => ?_, of_decide_eq_true h2⟩
  · exact Option.isNone_iff_eq_none.mp (He.ba (He.ba (one p hp)).2).1
  · have z := (He.ba (He.ba (one p hp)).2).2
    cases q : h.get? (He.cT (KF h.get?) p).2 with
    | none =>
      rw [q] at z
      cases z
    | some o =>
      rw [q] at z
      rw [He.emptyTab_eq (show He.emptyTab o = true from z)]
def hookF (fa : List He.Fa) (fn : List He.DefD) (tf : List He.Defn) : PySem.W.Hook where
  α := He.AlD × Bool
  obs := fun s => obF fa fn tf s.heap.get?
  val := fun _ => (He.valD fn, true)
  says := fun _ h => ∃ K : PySem.W.Frag, K.In h ∧ SaysF fa fn tf h K
  of := fun _ _ e => ⟨_, He.frG_in, saysF_of e⟩
  keeps := fun _ _ _ ⟨K, hK, c⟩ k => ⟨K, PySem.W.Frag.In.keeps hK k, ⟨c.d, c.hd, c.out, fun p hp => k _ _ (c.empty p hp), c.uniq⟩⟩
theorem obF_eq {fa : List He.Fa} {fn : List He.DefD} {tf : List He.Defn} {g : Addr → Option Obj} {s : Shared} (h : ∀ a, g a = s.heap.get? a) : obF fa fn tf g = (hookF fa fn tf).obs s := by
  rw [show g = s.heap.get? from funext h]
  rfl

abbrev R : PySem.W.OpenRow := PySem.W.OpenLaw.row PySem.Challenge.rw_laterhouse_k13_whole_none_waits_for_ever
abbrev hk : PySem.W.Hook := hookF faL fnL tfL
def ob (s : PySem.W.SharedT) : He.AlD × Bool := obF faL fnL tfL (HandSHeadRun.getT s)
theorem ob_eq (s : PySem.W.SharedT) : ob s = hk.obs s.abs := obF_eq (HandSHeadRun.getT_eq s)
theorem run (w : World) : HandSHeadRun.RunEq R (PySem.W.view R.prog [66]) hk ob 20000 nms w := by
  intro os
  kernel_rfl
end LH
end

set_option Elab.async false
set_option linter.all false
set_option maxRecDepth 100000
set_option maxHeartbeats 0
namespace LH
open PySem PySem.Spec PyProof.Rows L2 StX LamX
def dLaw : He.DefD := d_law
theorem SaysF.tp {P : Program} {w : World} {h : Heap} {K : PySem.W.Frag} {mg : Str → Option Value} {base : Heap} (c : SaysF faL fnL tfL h K) (X : K.In base) (G : base.Ns mainGlobals mg) (tb : ∀ p ∈ tfL, LamX.TabB base mg (He.cT K p).1 (He.cT K p).2) : Tp P w K mg base where
  c := c.d
  glo := He.glo_ok X G
  free := He.free_ok X G
  int := He.int_ok X G
  str := He.str_ok X G
  tab := tb
  uniq := c.uniq
theorem tabs_nil {K : PySem.W.Frag} {H : Hp} (hH : ∀ p ∈ tfL.map (He.cT K), H p.2 = some (.tbl #[])) : Tabs (TT K) H := by
  intro p hp
  have e : ∃ q ∈ tfL, p.1 = (He.cT K q).2 := by
    simp only [TT, tfL, List.mem_cons, List.not_mem_nil, or_false] at hp ⊢
    rcases hp with rfl | rfl <;> simp
  obtain ⟨q, hq, e⟩ := e
  refine TabS.nil ?_
  rw [e]
  exact hH _ (List.mem_map.mpr ⟨q, hq, rfl⟩)
theorem facts {l : PySem.W.OpenLaw} {w : World} {K : PySem.W.Frag} {h : Heap} {mg : Str → Option Value} {f : Addr} (X : K.In h) (G : h.Ns mainGlobals mg) (hfa : mg ("law" : Str) = some (.ref f)) (c : SaysF faL fnL tfL h K) : LawAtS l w K (L2.CX l.prog w) 201 63 "_law_script" mg f h := by
  have T0 : ∀ {P : Program} {base : Heap}, K.In base → base.Ns mainGlobals mg → (∀ p ∈ tfL, LamX.TabB base mg (He.cT K p).1 (He.cT K p).2) → Tp P w K mg base := fun X' G' tb => c.tp X' G' tb
  have e : f = He.ga K "law" := by
    have z := He.glo_ok X G (c.d.fact 60 (f := .glo "law") rfl)
    rw [hfa] at z
    cases z
    rfl
  subst e
  obtain ⟨fd, F⟩ := c.d.defs (d := d_law) (by simp [fnL])
  have b := FunD.bindsA (ps := ["_law_script"]) F fun _ _ _ _ _ _ us hl => match us, hl with | [_], _ => rfl
  refine ⟨fd, tfL.map (He.cT K), sp_law K, fun p hp => ?_, fun p hp => ?_, fun p hp => ?_, fun s v => b s [v] rfl, fun H a ns hl _ hH hS => ?_, fun base X' G' tb => ?_⟩
  · obtain ⟨q, hq, rfl⟩ := List.mem_map.mp hp
    exact c.empty q hq
  · obtain ⟨q, hq, rfl⟩ := List.mem_map.mp hp
    exact c.out q hq
  · obtain ⟨q, hq, rfl⟩ := List.mem_map.mp hp
    exact PySem.W.codeHd_of_K X (c.hd q hq)
  · unfold sp_law
    exact ⟨a, ns, rfl, hS, hl, tabs_nil hH, fun _ => rfl⟩
  · exact Tp.okF_law (T0 X' G' fun p hp => tb _ (List.mem_map.mpr ⟨p, hp, rfl⟩)) F
end LH
open PySem PySem.W PySem.Calls PyProof.Rows
theorem PySem.Challenge.cw_laterhouse_k13_whole_none_waits_for_ever_holds : PySem.Challenge.rw_laterhouse_k13_whole_none_waits_for_ever.Holds := by
  w_on; o_law
  refine HandSHeadRun.head_any (r := OpenLaw.row PySem.Challenge.rw_laterhouse_k13_whole_none_waits_for_ever) (q := view (OpenLaw.row PySem.Challenge.rw_laterhouse_k13_whole_none_waits_for_ever).prog [66]) (H := LH.hk) (ob := LH.ob) (M := 20000) (loose := LH.nms) (d := HandSHeadRun.topDef (OpenLaw.row PySem.Challenge.rw_laterhouse_k13_whole_none_waits_for_ever).prog 66) (kwd := []) LH.ob_eq
    (by kernel_rfl) (fun s => by kernel_rfl) LH.run (by kernel_rfl) (by kernel_rfl) (by kernel_rfl) (by rfl) (by first | assumption | decide +kernel) (by decide +kernel) ⟨rfl, rfl, rfl, rfl, rfl, by decide +kernel⟩ ?hw ?hc
  case hw => w_witness2
  case hc =>
    refine LamX.walk_ofTsE (l := PySem.Challenge.rw_laterhouse_k13_whole_none_waits_for_ever) (n := 63) (k := 201) (x := "_law_script") (CX := L2.CX (PySem.Challenge.rw_laterhouse_k13_whole_none_waits_for_ever).prog) rfl (by decide) (by kernel_rfl) ⟨rfl, by decide, by decide⟩ ?F ?G
    case F =>
      intro w mg fa h Y G hmg0
      obtain ⟨K, KX, c⟩ := Y
      have hmg : mg ("law" : PySem.Str) = some (.ref fa) := by
        have e : (HandSHeadRun.topDef (OpenLaw.row PySem.Challenge.rw_laterhouse_k13_whole_none_waits_for_ever).prog 66).name = ("law" : PySem.Str) := by kernel_rfl
        rw [← e]
        exact hmg0
      exact ⟨K, KX, LH.facts KX G hmg c⟩
    case G =>
      rintro w H s e s' ⟨a, B, H', cls, d, _, _, _, _, _, _, _, z⟩
      exact z
