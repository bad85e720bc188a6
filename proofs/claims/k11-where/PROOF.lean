import PyProof.Rows.All
import Wide.All
import OpenK.AllK
import Wide.FinOn
import HandS.ForMost
import HandS.Exc
import HandS.ExcOwn
import HandS.WordsExc
import HandS.ExcIs
import HandS.IsInst
import HandS.DictTup
import HandS.SortInts
import HandS.Wide
import HandS.RevRange
import HandS.Codes
import HandS.Conv
import HandS.Flow
import HandS.Walk
import HandS.More
import KE.DatumOrd
import KE.DataEq
import PyProof.DictMoreH
import PySem.Challenge.RW_tickbook_k11_where
import KE.KDictList
import KE.KeyNested
set_option Elab.async false
set_option linter.all false
set_option maxRecDepth 100000
set_option maxHeartbeats 2000000
/-! Rules of our own over HandS: dicts with tuple keys (setdefault, pop), min and remove of data, counts. -/
namespace L2.TK
open PySem PySem.Spec PyProof.Rows
open PySem.W (Datum DatumOrd Holds HoldAll minOf)

/-! ### data of a Lean type, read off the abstract heap -/
def Hd {A : Type} [DecidableEq A] [Datum A] (H : Hp) (v : V) (x : A) : Prop :=
  ∀ (X : Cx) (pins : List (Addr × Obj)) (sg : St) (s : Shared) (u : Value), Inv X pins sg H s → RelV v u → Holds s.heap u x
theorem hd_int {H : Hp} (i : Int) : Hd H (.int i) i := fun _ _ _ _ _ _ r => by
  obtain ⟨t, rfl⟩ := r
  exact PySem.W.holds_int i t
theorem hd_bool {H : Hp} (b : Bool) : Hd H (.bl b) b := fun _ _ _ _ _ _ r => by
  cases r
  exact PySem.W.holds_bool b
theorem hd_str {H : Hp} (x : Str) : Hd H (.str x) x := fun _ _ _ _ _ _ r => by
  obtain ⟨t, rfl⟩ := r
  exact PySem.W.holds_str x t
section
variable {A B : Type} [DecidableEq A] [Datum A] [DecidableEq B] [Datum B]
theorem hd_pair {H : Hp} {t : Addr} {v w : V} {x : A} {y : B} (h : H t = some (.tup [v, w])) (hx : Hd H v x) (hy : Hd H w y) : Hd H (.ref t) (x, y) := fun X pins sg s u I r => by
  cases r
  obtain ⟨its, rv, ht, _⟩ := I.tuple (SqT.of (K := X.K) h)
  obtain ⟨a, b, rfl, ra, rb⟩ := Vals.two rv
  exact PySem.W.holds_pair ht (hx X pins sg s a I ra) (hy X pins sg s b I rb)
theorem holds_inj {h : Heap} {v : Value} {x y : A} (a : Holds h v x) (b : Holds h v y) : x = y := by
  obtain ⟨as, ra⟩ := a
  obtain ⟨bs, rb⟩ := b
  have e := PySem.SeqAt.plain_unique _ _ _ _ _ (Datum.plain x) ra rb
  have q := PySem.SeqAt.eqv_refl_plain _ (Datum.plain x)
  have z := Datum.eqv x y
  rw [← e, q] at z
  exact of_decide_eq_true z.symm
theorem hd_all {X : Cx} {pins : List (Addr × Obj)} {sg : St} {H : Hp} {s : Shared} (I : Inv X pins sg H s) : ∀ {vs : List V} {xs : List A} {us : List Value}, Paired (fun v x => Hd H v x) vs xs → Vals vs us → HoldAll s.heap us xs
  | _, _, _, .nil, .nil => HoldAll.nil
  | _, _, _, .cons h t, .cons r q => HoldAll.cons (h X pins sg s _ I r) (hd_all I t q)
theorem paired_at {C D : Type} {F : C → D → Prop} : ∀ {l : List C} {m : List D} {i : Nat} {y : D}, Paired F l m → m[i]? = some y → ∃ x, l[i]? = some x ∧ F x y
  | _, _, _, _, .nil, h => by simp at h
  | _, _, 0, y, .cons r t, h => by
    simp at h
    subst h
    exact ⟨_, rfl, r⟩
  | _, _, i + 1, y, .cons r t, h => by
    simp at h
    obtain ⟨x, h1, h2⟩ := paired_at t h
    exact ⟨x, by simpa using h1, h2⟩
theorem paired_at2 {C D : Type} {F : C → D → Prop} : ∀ {l : List C} {m : List D} {i : Nat} {x : C}, Paired F l m → l[i]? = some x → ∃ y, m[i]? = some y ∧ F x y
  | _, _, _, _, .nil, h => by simp at h
  | _, _, 0, y, .cons r t, h => by
    simp at h
    subst h
    exact ⟨_, rfl, r⟩
  | _, _, i + 1, y, .cons r t, h => by
    simp at h
    obtain ⟨x, h1, h2⟩ := paired_at2 t h
    exact ⟨x, by simpa using h1, h2⟩
end
section
variable {X : Cx}
/-- min(l), l a list of data in order -/
def rMinD (A : Type) [DecidableEq A] [DatumOrd A] (K : PySem.W.Frag) : List V → Hp → VK → Prop := fun zs H Q => ∃ (a : Addr) (vs : List V) (x : A) (xs : List A), zs = [V.ref a] ∧ SqL K H a vs ∧ Paired (fun v x => Hd H v x) vs (x :: xs) ∧
  ∀ (i : Nat) (v : V), vs[i]? = some v → (x :: xs)[i]? = some (minOf x xs) → Q v H
theorem cr_minD {A : Type} [DecidableEq A] [DatumOrd A] (hc : X.calm = true) (hu : X.A.units + 1 + Datum.depth A < cLine) : CallR X (.builtin "min") (rMinD A X.K) := by
  intro pins s sg H vs us Q I r h
  obtain ⟨a, vs, x, xs, rfl, hs, hp, q⟩ := h
  obtain ⟨its, rv, hl, _⟩ := I.list hs
  rw [Vals.ref1 r]
  refine PySem.W.min_list_datum (x := x) (xs := xs) (I.ok.hd hc) hl.isList (hd_all I hp rv) hu fun i v h' tk hi hv hk => ?_
  have hi' : its[i]? = some v := by simpa using hi
  have hlen := Paired.length rv
  obtain ⟨y, hy, ry⟩ := paired_at (F := RelV) rv hi'
  obtain ⟨z, hz, dz⟩ := paired_at2 hp hy
  have e : z = minOf x xs := holds_inj ((dz X pins sg s v I ry).keeps hk) hv
  exact ⟨y, H, I.kept hk, ry, q i y hy (by rw [hz, e])⟩
/-- l.remove(x) of data: the first like it goes -/
def rRemD (A : Type) [DecidableEq A] [Datum A] : V → List V → Hp → VK → Prop := fun x ys H Q => ∃ (l : Addr) (vs : List V) (y : V) (xs : List A) (z : A) (j : Nat), x = .ref l ∧ ys = [y] ∧ H l = some (.lst vs) ∧ Paired (fun v x => Hd H v x) vs xs ∧ Hd H y z ∧
  xs[j]? = some z ∧ (∀ m, m < j → xs[m]? ≠ some z) ∧ Q .non (upd H l (.lst (vs.eraseIdx j)))
theorem mt_removeD {A : Type} [DecidableEq A] [Datum A] (hu : X.A.units + 1 + Datum.depth A < cLine) : MtR X "list.remove" (rRemD A) := by
  intro pins s sg H x ys v us Q I rx rv h
  obtain ⟨l, vs, y, xs, z, j, rfl, rfl, hl, hp, hy, hj, hno, q⟩ := h
  cases rx
  obtain ⟨u, rfl, ru⟩ := rv.one
  obtain ⟨hz, its, n, r, hlen, e⟩ := I.lstM hl
  have hjl : j < its.length := by
    have h1 := (List.getElem?_eq_some_iff.mp hj).1
    have h2 := Paired.length hp
    omega
  refine PySem.W.remove_list_datum (x := z) (xs := xs) (j := j) ⟨_, e, rfl, n, rfl⟩ (hd_all I hp r) (hy X pins sg s u I ru) hu hj hno (by rw [List.size_toArray]; omega) ?_
  refine ⟨.non, _, I.lset (its' := its.eraseIdx j) (t' := s.toks) hl e ?_ (r.eraseIdx j) (Nat.le_trans (len_erase vs j) hz), rfl, q⟩
  simp [Array.eraseIdxIfInBounds, hjl]
/-- l.count(x) of data -/
def rCountD (A : Type) [DecidableEq A] [Datum A] (K : PySem.W.Frag) : V → List V → Hp → VK → Prop := fun x ys H Q => ∃ (l : Addr) (vs : List V) (y : V) (xs : List A) (z : A), x = .ref l ∧ ys = [y] ∧ SqL K H l vs ∧ Paired (fun v x => Hd H v x) vs xs ∧ Hd H y z ∧
  Q (.int ((xs.countP fun y => decide (y = z) : Nat) : Int)) H
theorem mt_countD {A : Type} [DecidableEq A] [Datum A] (hu : X.A.units + 1 + Datum.depth A < cLine) : MtR X "list.count" (rCountD A X.K) := by
  intro pins s sg H x ys v us Q I rx rv h
  obtain ⟨l, vs, y, xs, z, rfl, rfl, hl, hp, hy, q⟩ := h
  cases rx
  obtain ⟨u, rfl, ru⟩ := rv.one
  obtain ⟨its, r, pl, _⟩ := I.list hl
  exact PySem.W.count_list_datum (x := z) (xs := xs) pl.isList (hd_all I hp r) (hy X pins sg s u I ru) hu ⟨.int _, H, I.tok _, ⟨_, rfl⟩, q⟩
/-! ### dicts with tuple keys -/
def rSetdT : V → List V → Hp → VK → Prop := fun x ys H Q => ∃ (a b : Addr) (kvs : List (List L2.Key × V)) (k : List L2.Key) (d : V), x = .ref a ∧ ys = [.ref b, d] ∧ H a = some (.dT kvs) ∧ H b = some (.tup (k.map kV)) ∧ kvs.length < sizeLine ∧
  (∀ v, valV kvs k = some v → Q v H) ∧ (valV kvs k = none → Q d (upd H a (.dT (putK kvs k d))))
theorem mt_setdT (hu : X.A.units + 1 < cLine) : MtR X "dict.setdefault" rSetdT := by
  intro pins s sg H x ys v us Q I rx rv h
  obtain ⟨a, b, kvs, k, d, rfl, rfl, ha, hb, hlt, q1, q2⟩ := h
  cases rx
  obtain ⟨u1, u2, rfl, r1, r2⟩ := Vals.two rv
  cases r1
  obtain ⟨z, hd, xs, rel, dd⟩ := dt_of I.hok ha
  have hz : xs.length ≤ sizeLine := by rw [← Paired.length rel]; exact z
  refine call_setdefault_heap (hsz := hz) (tupleKind_room_in1 hu) (key_of I.hok hb) hd dd (fun p hp => ?_) fun hn h' dd' hs => ?_
  · have r := KT.val rel k
    rw [hp] at r
    cases ev : valV kvs k with
    | none =>
      rw [ev] at r
      exact (show False from r).elim
    | some v0 =>
      rw [ev] at r
      exact ⟨v0, H, I.tok _, r, q1 v0 ev⟩
  · have r := KT.val rel k
    rw [hn] at r
    have e : valV kvs k = none := by
      cases ev : valV kvs k with
      | none => rfl
      | some v0 =>
        rw [ev] at r
        exact (show False from r).elim
    obtain ⟨o, es, ep, hq, h2, h3, h4, _, h5⟩ := dd'
    have hl : (putK kvs k d).length ≤ sizeLine := by have := length_putK kvs k d; omega
    refine ⟨d, upd H a (.dT (putK kvs k d)), d_write I (by rw [ha]; exact True.intro) hs ⟨o, hq⟩ ⟨hl, hd, _, (rel.put k hb r2).keeps fun c ys ec => ?_, o, es, ep, hq, h2, h3, h4, h5⟩, r2, q2 e⟩
    rw [upd_ne (ne_of ec ha (fun z => nomatch z))]
    exact ec
theorem KT_without {H : Hp} (k : List L2.Key) : ∀ {kvs : List (List L2.Key × V)} {xs : List (List L2.Key × Addr × Value)}, KT H kvs xs → KT H (dropK kvs k) (withoutH xs k)
  | _, _, .nil => .nil
  | _, _, .cons (a := p) (b := q) h t => by
    have ih := KT_without k t
    by_cases e : p.1 = k
    · have e2 : q.1 = k := h.1.symm.trans e
      rw [show dropK (p :: _) k = dropK _ k from List.filter_cons_of_neg (by simp [e]), show withoutH (q :: _) k = withoutH _ k from List.filter_cons_of_neg (by simp [e2])]
      exact ih
    · have e2 : ¬ q.1 = k := fun z => e (h.1.trans z)
      rw [show dropK (p :: _) k = p :: dropK _ k from List.filter_cons_of_pos (by simp [e]), show withoutH (q :: _) k = q :: withoutH _ k from List.filter_cons_of_pos (by simp [e2])]
      exact .cons h ih
/-- d.pop(k), there -/
def rPop1T : V → List V → Hp → VK → Prop := fun x ys H Q => ∃ (a b : Addr) (kvs : List (List L2.Key × V)) (k : List L2.Key) (v : V), x = .ref a ∧ ys = [.ref b] ∧ H a = some (.dT kvs) ∧ H b = some (.tup (k.map kV)) ∧ valV kvs k = some v ∧
  Q v (upd H a (.dT (dropK kvs k)))
theorem mt_pop1T (hu : X.A.units + 1 < cLine) : MtR X "dict.pop" rPop1T := by
  intro pins s sg H x ys v us Q I rx rv h
  obtain ⟨a, b, kvs, k, v0, rfl, rfl, ha, hb, hv, q⟩ := h
  cases rx
  obtain ⟨u1, rfl, r1⟩ := rv.one
  cases r1
  obtain ⟨z, hd, xs, rel, dd⟩ := dt_of I.hok ha
  have hz : xs.length ≤ sizeLine := by rw [← Paired.length rel]; exact z
  obtain ⟨w', hw, rw'⟩ := RelO.some_of (v := v0) (o := (atKey xs k).map (·.2)) (by rw [← hv]; exact KT.val rel k)
  obtain ⟨p, hp, rfl⟩ := Option.map_eq_some_iff.mp hw
  refine call_pop_heap (hsz := hz) (.inl rfl) (PySem.F.args_dict_pop_2 _ _) (tupleKind_room_in1 hu) (key_of I.hok hb) hd dd hp fun h' dd' hs => ?_
  obtain ⟨o, es, ep, hq, h2, h3, h4, _, h5⟩ := dd'
  refine ⟨v0, upd H a (.dT (dropK kvs k)), d_write I (by rw [ha]; exact True.intro) hs ⟨o, hq⟩ ⟨Nat.le_trans (dropK_le kvs k) z, hd, _, (KT_without k rel).keeps fun c ys ec => ?_, o, es, ep, hq, h2, h3, h4, h5⟩, rw', q⟩
  rw [upd_ne (ne_of ec ha (fun z => nomatch z))]
  exact ec
end
end L2.TK
set_option Elab.async false
set_option linter.all false
set_option maxRecDepth 100000
set_option maxHeartbeats 2000000
/-! An exception that a try's suite keeps in a name: its object is tracked behind the suite; isinstance of it; calls whose raising is wished for at the caller's slots. -/
namespace L2.TK
open PySem PySem.Spec PyProof.Rows

/-- an exception object of the class cls stands at a -/
def ExV (cls : Value) (a : Addr) : HO := .ext fun h => ∃ (oe : Obj) (vs : Array Value), h.get? a = some oe ∧ Zc cls none oe ∧ oe.data = .fields vs
theorem exV_ok {P : Program} {w : World} {H : Hp} {h : Heap} {a : Addr} {cls : Value} {oe : Obj} {vs : Array Value} (e : h.get? a = some oe) (z : Zc cls none oe) (d : oe.data = .fields vs) : ObjOk P w H h a (ExV cls a) :=
  ⟨⟨oe, vs, e, z, d⟩, ⟨oe, e⟩, fun _ _ ⟨o, v, q, r⟩ k => ⟨o, v, k o q, r⟩⟩
section
variable {X : Cx} {pins : List (Addr × Obj)} {sg : St} {H : Hp} {s : Shared}
/-- an object that was not there at the entry is tracked from now on -/
theorem track {a : Addr} {o : HO} (I : Inv X pins sg H s) (hn : H a = none) (h0 : X.s_0.heap.get? a = none) (hL : X.env.locals ≠ a) (hC : ∀ x c, X.env.cells.lookup x = some c → c ≠ a)
    (hp : ∀ p ∈ X.pn ++ pins, p.1 ≠ a) (new : ObjOk X.prog X.w (upd H a o) s.heap a o) : Inv X pins sg (upd H a o) s := by
  have ne0 : ∀ b q, X.s_0.heap.get? b = some q → b ≠ a := fun b q e z => by
    rw [z, h0] at e
    cases e
  have neH : ∀ b q, H b = some q → b ≠ a := fun b q e z => by
    rw [z, hn] at e
    cases e
  refine ⟨I.ok, I.os, I.bare, ⟨I.base.keep, I.base.slot, fun b q e n hx => ?_, I.base.there, fun b xs e => ?_, fun b q u e => ?_, fun b ps e => ?_⟩, I.loc, I.cell, ?_, fun x c e => ?_, fun p m => ?_, fun b u e => ?_, I.len⟩
  · rw [upd_ne (ne0 b q e)]
    exact I.base.free b q e n hx
  · have q := I.base.tups b xs e
    rw [upd_ne (neH b _ q)]
    exact q
  · have q := I.base.frzs b q u e
    rw [upd_ne (neH b _ q)]
    exact q
  · obtain ⟨more, q⟩ := I.base.tbls b ps e
    exact ⟨more, by rw [upd_ne (neH b _ q)]; exact q⟩
  · rw [upd_ne hL]
    exact I.free
  · rw [upd_ne (hC x c e)]
    exact I.freeC x c e
  · obtain ⟨e, n, ne, nf, d⟩ := I.pin p m
    exact ⟨e, by rw [upd_ne (hp p m)]; exact n, ne, nf, d⟩
  · by_cases hb : b = a
    · subst hb
      rw [upd_same] at e
      cases e
      exact new
    · rw [upd_ne hb] at e
      refine (I.hok b u e).stay (fun c v _ q => q) (fun c q => ?_) fun c xs q => ?_
      · rw [upd_ne (neH c _ q)]
        exact q
      · rw [upd_ne (neH c _ q)]
        exact q
end
/-- what 'except c as n: suite' wishes, where the suite goes on to what is behind it: the exception stands there, tracked -/
def wKeep (K : PySem.W.Frag) (c : Value) (i : Nat) (ts : Addr → Value → Option Addr → TS) (Wout : WX) (D : Ends) : WX := fun cls d sg H =>
  ∃ b, PySem.W.exmOne K cls c = some b ∧ (b = true → d = none ∧ ∀ a, H a = none →
      ts a cls d { nx := fun sg' H' => H' a = none → D.nx (sg'.set i none) (upd H' a (ExV cls a)), rt := fun _ _ => False } (sg.set i (some (.ref a))) H) ∧
    (b = false → Wout cls d sg H)
section
variable {X : Cx} {x n : Str} {c : Value} {i : Nat} {body suite : List Stmt} {b0 : Stmt} {np pos pos' : Pos} {tb : WX → TS} {ts : Addr → Value → Option Addr → TS} {Wout : WX}
theorem ps_try_keep (hs : X.stack = X.env :: X.outer) (hf : X.env.frame = some X.env.locals) (hex : X.ex = []) (hN : X.N.Nodup) (hi : X.N[i]? = some n) (hln : X.env.kindOf n = some .local) (hc : Names X x c) (tk : Takes X Wout)
    (hb : ∀ (W : WX) (pn : List (Addr × Obj)) (xe : Value → Shared → Prop), Takes (X.tr pn xe) W → PassesOwn (model X.prog X.w) X.A X.env xe → PSs (X.tr pn xe) body (tb W))
    (hsu : ∀ (a : Addr) (oe : Obj) (cls : Value) (d : Option Addr) (pn : List (Addr × Obj)), Zc cls d oe → (∃ vs, oe.data = .fields vs) → PSs (X.suite a ((a, oe) :: pn)) (b0 :: suite) (ts a cls d)) :
    PS X (.Try body [.ExceptHandler (some (.Name x np)) (some n) (b0 :: suite) pos'] [] [] pos) (fun D sg H => tb (wKeep X.K c i ts Wout D) D sg H) := by
  refine ⟨fun pins s sg H D I h => ?_⟩
  have ok := I.ok
  have hfr : X.A.frames = some (X.env :: X.outer) := ok.frames.trans (congrArg some hs)
  refine wpAny_Try_except (wpAny_mono ((hb (wKeep X.K c i ts Wout D) (X.pn ++ pins) (fun e s1 => wpAny (model X.prog X.w) X.A (noteFrame e X.env) (fun _ s2 => wpAny (model X.prog X.w) X.A (setFlight e none) (fun _ s3 =>
    wpAny (model X.prog X.w) X.A (handleBy e X.env [.ExceptHandler (some (.Name x np)) (some n) (b0 :: suite) pos']) (SP X pins D) X.xe s3) X.xe s2) X.xe s1) (fun u s' xx => ?_) PassesOwn.looking).run [] s sg H D (I.toTry _) h) (fun f s1 hsp => ?_) (fun e s1 he => he))
  · obtain ⟨a, B, sI, pins', sg', H', cls, d, rfl, J', nb, up, sky, na, os, ag, b, hb1, hyes, hno⟩ := xx
    have J : Inv X pins sg' H' sI := J'.ofTry ok
    rw [show (X.tr (X.pn ++ pins) _).stack = X.env :: X.outer from hs] at sky
    refine Sky.land Zc.steady hfr hf sky fun h3 fl3 up3 => ?_
    have J3 : Inv X pins sg' H' { s' with heap := h3 } := J.landed nb fl3.1 (up.trans up3) os ag
    obtain ⟨oe3, vs3, he3, hz3, hd3⟩ := fl3.there
    have nfr : a ∉ frs (X.env :: X.outer) := fun hm => by
      obtain ⟨_, o', e', hnf⟩ := fl3.2.2.1.mem hm
      rw [he3] at e'
      cases e'
      exact hnf _ hd3
    have nL : a ≠ X.env.locals := fun z => nfr (List.mem_filterMap.mpr ⟨X.env, List.mem_cons_self, by rw [hf, z]⟩)
    have nF : a ∉ X.fs := fun hm => by
      obtain ⟨e, he, q⟩ := List.mem_filterMap.mp hm
      exact nfr (List.mem_filterMap.mpr ⟨e, List.mem_cons_of_mem _ he, q⟩)
    -- the exception's own place was free ahead of it
    have nsI : sI.heap.get? a = none := by
      cases q : sI.heap.get? a with
      | none => rfl
      | some o =>
        have z := nb a o q (by show a ∉ frs X.stack; rw [hs]; exact nfr)
        have z2 : B.get? a = none := fl3.2.1
        rw [z2] at z
        cases z
    have ns0 : X.s_0.heap.get? a = none := by
      cases q : X.s_0.heap.get? a with
      | none => rfl
      | some o =>
        obtain ⟨o', z⟩ := J.base.there a o q (by rw [hex]; exact fun z => nomatch z)
        rw [nsI] at z
        cases z
    have npin : ∀ p ∈ X.pn ++ pins, p.1 ≠ a := fun p hp z => by
      have q := (J.pin p hp).1
      rw [z, nsI] at q
      cases q
    have S3 := J3.suite he3 hd3 na nL nF
    refine wpAny_handleBy_cons (codeAny_handlers_test ?_) (by intro q; cases q)
    have LT : PySem.W.Looks (model X.prog X.w) h3 (typeOf (.ref a)) cls := fun A Q E s k q => wpAny_typeOf_ref (k _ _ he3) (by rw [hz3.1]; exact q)
    have LM := PySem.W.exm_one (M := model X.prog X.w) (J3.kIn) LT hb1
    have test : ∀ {Q : Value → Shared → Prop} {E : Value → Shared → Prop}, Q c { s' with heap := h3 } → wpAny (model X.prog X.w) (X.A.mark (some (.ref a))) (eval (.Name x np) X.env) Q E { s' with heap := h3 } := fun {Q E} q => by
      obtain ⟨hg, hdbg, hm | ⟨hm, hv, hnn⟩⟩ := hc
      · exact ld_glob (X := X.suite a ((a, oe3) :: (X.pn ++ pins))) S3 hg hm q hdbg
      · exact ld_blt (X := X.suite a ((a, oe3) :: (X.pn ++ pins))) S3 hg hm hv q hnn hdbg
    refine test (LM.here ?_)
    cases b with
    | true =>
      obtain ⟨dn, hsuite⟩ := hyes rfl
      subst dn
      refine codeAny_handlers_suite_as (HandSPX.lands_againZ fl3 fun h4 fl4 up4 => ?_)
      have J4 : Inv X pins sg' H' { s' with heap := h4 } := J.landed nb fl4.1 ((up.trans up3).trans up4) os ag
      obtain ⟨oe4, vs4, he4, hz4, hd4⟩ := fl4.there
      have S4 := J4.suite he4 hd4 na nL nF
      refine store_ok (X := X.suite a ((a, oe4) :: (X.pn ++ pins))) (v := .ref a) S4 hN hi (.inl hln) rfl (fun s5 S5 => ?_) (.inr hln)
      refine wpAny_mono ((hsu a oe4 cls none (X.pn ++ pins) hz4 ⟨_, hd4⟩).run [] s5 _ H' _ S5 (hsuite a na)) (fun f s6 hsp => ?_) (fun _ _ z => False.elim z)
      cases f with
      | next =>
        obtain ⟨sg6, H6, S6, q6⟩ := hsp
        obtain ⟨e6, n6, _, _, _⟩ := S6.pin (a, oe4) (List.mem_append.mpr (.inl List.mem_cons_self))
        have J6 : Inv X pins sg6 H6 s6 := S6.unsuite ok
        have nC : ∀ y k, X.env.cells.lookup y = some k → k ≠ a := fun y k e z => by
          obtain ⟨v, o, ho, hd⟩ := J6.cell y k e
          rw [z, e6] at ho
          cases ho
          rw [hd4] at hd
          cases hd
        have J7 : Inv X pins sg6 (upd H6 a (ExV cls a)) s6 := track J6 n6 ns0 (Ne.symm nL) nC npin (exV_ok e6 hz4 hd4)
        exact gone_ok J7 hN hi hln fun s7 J8 => ⟨_, _, J8, q6 n6⟩
      | brk =>
        obtain ⟨sg6, H6, S6, q6⟩ := hsp
        exact (show False from q6).elim
      | cont =>
        obtain ⟨sg6, H6, S6, q6⟩ := hsp
        exact (show False from q6).elim
      | ret u =>
        obtain ⟨v6, sg6, H6, S6, r6, q6⟩ := hsp
        exact (show False from q6).elim
    | false =>
      show wpAny _ X.A (handleBy (.ref a) X.env []) _ _ _
      refine wpAny_handleBy_nil ?_
      obtain ⟨k1, k2, k3, oe, vs, T, oT, ts', he, hz, hd, h1, hr⟩ := id fl3
      unfold PySem.passOn
      refine wpAny_bind (wpAny_field he hd h1 ?_)
      rw [if_neg (by simp : ¬ ((Value.ref T == Value.none) = true))]
      have fin : wpAny (model X.prog X.w) X.A (setFlight (.ref a) X.env.frame) (fun _ s4 => wpAny (model X.prog X.w) X.A (throw (.ref a) : Sem Flow) (SP X pins D) X.xe s4) X.xe { s' with heap := h3 } := by
        rw [hf]
        refine HandSPX.setFlight_upZ fl3 fun h4 hh4 up4 => wpAny_throw (tk _ _ ?_)
        exact ⟨a, B, sI, pins, sg', H', cls, d, rfl, J, nb, (up.trans up3).trans up4, .inr (.inr (by rw [hs]; exact hh4)), na, os, ag, hno rfl⟩
      first
        | exact wpAny_bind (wpAny_pure (wpAny_bind fin))
        | exact wpAny_bind fin
  · cases f with
    | next =>
      obtain ⟨sg', H', J', q⟩ := hsp
      exact wpAny_execs_nil ⟨sg', H', J'.ofTry ok, q⟩
    | brk =>
      obtain ⟨sg', H', J', q⟩ := hsp
      exact ⟨sg', H', J'.ofTry ok, q⟩
    | cont =>
      obtain ⟨sg', H', J', q⟩ := hsp
      exact ⟨sg', H', J'.ofTry ok, q⟩
    | ret u =>
      obtain ⟨v, sg', H', J', r, q⟩ := hsp
      exact ⟨v, sg', H', J'.ofTry ok, r, q⟩
end
/-! ### isinstance of such an exception -/
section
variable {X : Cx} {a D : Addr}
theorem kitV {K : PySem.W.Frag} {oe : Obj} (C : ExcC K D) : PySem.W.KitX K (.ref a) (.ref D) (fun h => PySem.W.InstAt h a oe D none) :=
  PySem.W.handS_kitx_exc C.hg C.hk C.hs C.hd C.ha C.hn C.ht C.hm
theorem instV {pins : List (Addr × Obj)} {sg : St} {H : Hp} {s : Shared} (I : Inv X pins sg H s) (h : H a = some (ExV (.ref D) a)) : ∃ oe, PySem.W.InstAt s.heap a oe D none := by
  obtain ⟨⟨oe, vs, e, hz, hd⟩, _, _⟩ := I.hok a _ h
  obtain ⟨oc, od, oda, osl⟩ := oe
  obtain ⟨h1, h2⟩ := hz
  dsimp only at h1 h2 hd
  subst h1 h2 hd
  exact ⟨_, e, rfl, rfl, trivial⟩
/-- isinstance(e, c), c a class -/
def rIsV (K : PySem.W.Frag) (D : Addr) : List V → Hp → VK → Prop := fun xs H Q => ∃ (a : Addr) (c : V) (cv : Value) (b : Bool), xs = [.ref a, c] ∧ H a = some (ExV (.ref D) a) ∧ (∀ u, RelV c u → u = cv) ∧ PySem.W.kitOne K (.ref D) cv = some b ∧ Q (.bl b) H
theorem call_isV (C : ExcC X.K D) : CallR X (.builtin "isinstance") (rIsV X.K D) := by
  intro pins s sg H xs us Q I r h
  obtain ⟨a, c, cv, b, rfl, ha, hcv, e, q⟩ := h
  obtain ⟨u1, u2, rfl, r1, r2⟩ := Vals.two r
  cases r1
  have ec := hcv _ r2
  subst ec
  obtain ⟨oe, J⟩ := instV I ha
  exact PySem.W.kia_one (kitV C) I.kIn J e (fun z => nomatch z) fun tk => ⟨.bl b, H, I.kept (t' := tk) fun _ _ z => z, rfl, q⟩
/-- isinstance(e, (c1, c2)), the classes a tuple that was just laid -/
def rIsVT (K : PySem.W.Frag) (D : Addr) : List V → Hp → VK → Prop := fun xs H Q => ∃ (a tp : Addr) (cs : List V) (us : List Value) (b : Bool), xs = [.ref a, .ref tp] ∧ H a = some (ExV (.ref D) a) ∧ H tp = some (.tup cs) ∧ Paired ClsV cs us ∧ PySem.W.kitAny K (.ref D) us = some b ∧ Q (.bl b) H
theorem call_isVT (C : ExcC X.K D) : CallR X (.builtin "isinstance") (rIsVT X.K D) := by
  intro pins s sg H xs us Q I r h
  obtain ⟨a, tp, cs, ws, b, rfl, ha, hT, k, e, q⟩ := h
  obtain ⟨u1, u2, rfl, r1, r2⟩ := Vals.two r
  cases r1
  cases (show u2 = Value.ref tp from r2)
  obtain ⟨oe, J⟩ := instV I ha
  obtain ⟨_, its, rv, o, h1, h2, n, h3⟩ := (show ObjOk X.prog X.w H s.heap tp (.tup cs) from I.hok tp _ hT)
  have e3 := ClsV.all k rv
  subst e3
  obtain ⟨oc, od, dt, sl⟩ := o
  simp only at h2 h3
  subst h2 h3
  exact PySem.W.kia_tup (kitV C) I.kIn J h1 e (fun z => nomatch z) fun tk => ⟨.bl b, H, I.tok tk, rfl, q⟩
end
/-! ### calls within a try: what is raised is wished for at the caller's slots -/
section
variable {X : Cx} {CX : CXT} {k : Nat} {f C : Addr} {fd : FuncData} {ps : List Str} {sp : Sp} {E : St → XK} {x m : Str} {p pos apos : Pos} {e o : Expr} {es : List Expr} {ta : TE} {t : TA}
def tMethS (C : Addr) (m : Str) (sp : Sp) (E : St → XK) (ta : TE) (t : TA) : TE := fun sg H Q => ta sg H fun x H1 => ∃ a dx fs, x = .ref a ∧ H1 a = some (.ins C dx fs) ∧ fs.lookup m = none ∧
  t sg H1 fun vs H2 => sp (x :: vs) H2 Q (E sg)
theorem pe_methS {pl : Sem Bool} (he : PE X o ta) (c : Cls X.K C) (hm : Meth X.K C m f) (F : FnOk X.prog X.w X.K X.mg X.base CX k f fd ps sp) (hr : Room k X.A) (hb : Binds X.K fd ps []) (hx : ∀ sg, PassesAt CX X sg (E sg)) (ha : PA X (e :: es) t)
    (hst : starEach (e :: es) X.env = (false, eval e X.env) :: starEach es X.env := by rfl) (hpl : (backTo pos (starEach es X.env)).any (·.1) = false := by rfl)
    (ht : eval (.Call (.Attribute o m apos) (e :: es) [] pos) X.env = (do
      let ov ← eval o X.env
      standAt apos.atName
      let (f, first) ← holding [ov] (getMethod ov m pl)
      callWith pos f first (backTo pos (starEach (e :: es) X.env)) (backToKw pos (keywordEach [] X.env))) := by rfl) :
    PE X (.Call (.Attribute o m apos) (e :: es) [] pos) (tMethS C m sp E ta t) := by
  refine ⟨fun pins s sg H Q I h => ?_⟩
  refine PySem.W.methodCall_KW (pl := pl) (thn (he.run pins s sg H _ I h) fun u s1 ⟨x, H1, I1, rx, a, dx, fs, ex, ea, l, q⟩ => ?_) ht
  subst ex
  cases (show u = Value.ref a from rx)
  refine getmeth_ok I1 ea c hm l (PySem.W.callWith_K (first := [.ref a]) (h₀ := X.base) I.ok.mod.kin hm.kp (thn (ha.run pos pins s1 sg H1 _ I1 q) fun us s2 ⟨vs, H2, I2, r, q2⟩ => ⟨I2.kIn, ?_⟩) hst hpl)
  exact run_fnS (us := .ref a :: us) (vs := .ref a :: vs) F hr hb (hx sg) I2 (.cons rfl r) q2
def tMakeS (C : Addr) (sp : Sp) (E : St → XK) (t : TA) : TE := fun sg H Q => t sg H fun vs H1 => ∀ x dx, H1 x = none → H1 dx = none → dx ≠ x →
  sp (.ref x :: vs) (upd (upd H1 dx (.own x)) x (.ins C dx [])) (fun v H2 => v = .non ∧ Q (.ref x) H2) (E sg)
theorem pe_makeS (M : Mk X.K C f) (F : FnOk X.prog X.w X.K X.mg X.base CX k f fd ps sp) (hr : Room (k + 1) X.A) (hg : Gl X x) (hm : X.mg x = some (.ref C)) (hb : Binds X.K fd ps []) (hx : ∀ sg, PassesAt CX X sg (E sg))
    (ha : PA X (e :: es) t) (hdb : (x == ("__debug__" : Str)) = false := by decide) (he : starEach (e :: es) X.env = (false, eval e X.env) :: starEach es X.env := by rfl) (hpl : (backTo pos (starEach es X.env)).any (·.1) = false := by rfl) :
    PE X (.Call (.Name x p) (e :: es) [] pos) (tMakeS C sp E t) := by
  refine ⟨fun pins s sg H Q I h => ?_⟩
  refine wpAny_Call_Name_kw (ld_glob I hg hm ?_ hdb)
  refine PySem.W.callWith_K (h₀ := X.base) I.ok.mod.kin M.kp (thn (ha.run pos pins s sg H _ I h) fun us s1 ⟨vs, H1, I1, r, q⟩ => ⟨I1.kIn, ?_⟩) he hpl
  have hq := q (s1.heap.objs.size + 1) s1.heap.objs.size (I1.hok.fresh (Nat.le_succ _)) (I1.hok.fresh (Nat.le_refl _)) (Nat.ne_of_lt (Nat.lt_succ_self _))
  have I2 := Inv.made (C := C) I1
  have r2 : Vals (V.ref (s1.heap.objs.size + 1) :: vs) (Value.ref (s1.heap.objs.size + 1) :: us) := .cons rfl r
  have hl : (Value.ref (s1.heap.objs.size + 1) :: us).length = ps.length := r2.length.symm.trans (F.len _ _ _ _ hq)
  have b := hb _ (Value.ref (s1.heap.objs.size + 1) :: us) I2.kIn (by rw [List.append_nil]; exact hl)
  rw [List.append_nil] at b
  refine wpAny_call (make_map (f := f) I1.kIn M.makes M.init (beq_iff_eq.mp M.fn) (codeAny_mono (F.run _ X.stack _ _ ⟨Value.ref (s1.heap.objs.size + 1) :: us, []⟩ (Value.ref (s1.heap.objs.size + 1) :: us) _ _ (E sg) (hr.make C us [])
    (I2.env0.make C us []) b r2 hq) fun r s' hq' => ?_))
  cases r with
  | error e => exact hx sg pins _ _ e s' I2 hq'
  | ok fl =>
    cases fl with
    | ret u =>
      obtain ⟨v, H', I3, rv, ev, q3⟩ := I2.after hq'
      subst ev
      exact ⟨rv, ⟨V.ref (s1.heap.objs.size + 1), H', I3, rfl, q3⟩⟩
    | next => exact False.elim hq'
    | brk => exact False.elim hq'
    | cont => exact False.elim hq'
end
end L2.TK
set_option Elab.async false
set_option linter.all false
set_option maxHeartbeats 1000000
/-! The plain laws of wheels: where a tick lies, what the soonest is, what is moved when time goes on. -/
namespace TkM
/-- the number of whole slots of level l ahead of the tick d -/
def Qt (S : Int) (l : Nat) (d : Int) : Int := d / S ^ l
theorem Qt_zero {S : Int} (d : Int) : Qt S 0 d = d := by simp [Qt]
theorem Qt_succ {S : Int} (hS : 0 < S) (l : Nat) (d : Int) : Qt S (l + 1) d = Qt S l d / S := by
  unfold Qt
  rw [Int.pow_succ, Int.ediv_ediv_of_nonneg (Int.le_of_lt (Int.pow_pos hS))]
theorem Qt_mono {S : Int} (hS : 0 < S) (l : Nat) {a b : Int} (h : a ≤ b) : Qt S l a ≤ Qt S l b := Int.ediv_le_ediv (Int.pow_pos hS) h
theorem Qt_lt {S : Int} (hS : 0 < S) {l : Nat} {a b : Int} (h : Qt S l a < Qt S l b) : a < b := by
  by_cases c : a < b
  · exact c
  · have := Qt_mono hS l (Int.not_lt.mp c)
    omega
theorem Qt_up {S : Int} (hS : 0 < S) {l j : Nat} {a b : Int} (h : Qt S l a = Qt S l b) (hj : l ≤ j) : Qt S j a = Qt S j b := by
  obtain ⟨k, rfl⟩ := Nat.exists_eq_add_of_le hj
  induction k with
  | zero => exact h
  | succ k ih => rw [← Nat.add_assoc, Qt_succ hS, Qt_succ hS, ih (by omega)]
theorem Qt_split {S : Int} (hS : 0 < S) (l : Nat) (d : Int) : Qt S l d = S * Qt S (l + 1) d + Qt S l d % S := by
  rw [Qt_succ hS]
  have := Int.mul_ediv_add_emod (Qt S l d) S
  omega
/-- where a tick lies: level and slot -/
def place (S : Int) (L : Nat) (now due : Int) : Option (Int × Int) :=
  match (List.range L).find? (fun l => decide (Qt S (l + 1) due = Qt S (l + 1) now)) with
  | some l => some ((l : Int), Qt S l due % S)
  | none => none
theorem place_some {S : Int} {L l : Nat} {now due : Int} (hl : l < L) (he : Qt S (l + 1) due = Qt S (l + 1) now) (hn : ∀ j, j < l → Qt S (j + 1) due ≠ Qt S (j + 1) now) :
    place S L now due = some ((l : Int), Qt S l due % S) := by
  have e : (List.range L).find? (fun l => decide (Qt S (l + 1) due = Qt S (l + 1) now)) = some l := by
    rw [List.find?_range_eq_some]
    refine ⟨by simpa using he, by simpa using hl, fun j hj => ?_⟩
    simpa using hn j hj
  unfold place
  rw [e]
theorem place_none {S : Int} {L : Nat} {now due : Int} (hn : ∀ j, j < L → Qt S (j + 1) due ≠ Qt S (j + 1) now) : place S L now due = none := by
  have e : (List.range L).find? (fun l => decide (Qt S (l + 1) due = Qt S (l + 1) now)) = none := by
    rw [List.find?_eq_none]
    intro j hj
    simpa using hn j (by simpa using hj)
  unfold place
  rw [e]
theorem place_inv {S : Int} {L : Nat} {now due : Int} {k : Int × Int} (h : place S L now due = some k) :
    ∃ l : Nat, l < L ∧ k = ((l : Int), Qt S l due % S) ∧ Qt S (l + 1) due = Qt S (l + 1) now ∧ ∀ j, j < l → Qt S (j + 1) due ≠ Qt S (j + 1) now := by
  unfold place at h
  split at h
  · rename_i l e
    rw [List.find?_range_eq_some] at e
    obtain ⟨h1, h2, h3⟩ := e
    refine ⟨l, by simpa using h2, (Option.some.inj h).symm, by simpa using h1, fun j hj => ?_⟩
    simpa using h3 j hj
  · cases h
theorem place_no {S : Int} {L : Nat} {now due : Int} (h : place S L now due = none) : ∀ j, j < L → Qt S (j + 1) due ≠ Qt S (j + 1) now := by
  unfold place at h
  split at h
  · cases h
  · rename_i e
    rw [List.find?_eq_none] at e
    intro j hj
    simpa using e j (by simpa using hj)
/-- one level below suffices -/
theorem place_at {S : Int} (hS : 0 < S) {L l : Nat} {now due : Int} (hl : l < L) (he : Qt S (l + 1) due = Qt S (l + 1) now) (hn : l = 0 ∨ Qt S l due ≠ Qt S l now) :
    place S L now due = some ((l : Int), Qt S l due % S) := by
  refine place_some hl he fun j hj e => ?_
  rcases hn with h | h
  · omega
  · exact h (Qt_up hS e (by omega))
theorem place_low {S : Int} {L l : Nat} {now due : Int} {s : Int} (h : place S L now due = some ((l : Int), s)) :
    l < L ∧ s = Qt S l due % S ∧ Qt S (l + 1) due = Qt S (l + 1) now ∧ (l = 0 ∨ Qt S l due ≠ Qt S l now) := by
  obtain ⟨l', h1, h2, h3, h4⟩ := place_inv h
  have e1 : (l : Int) = (l' : Int) := congrArg Prod.fst h2
  have e : l = l' := by omega
  subst e
  refine ⟨h1, congrArg Prod.snd h2, h3, ?_⟩
  cases l with
  | zero => exact .inl rfl
  | succ j => exact .inr (h4 j (by omega))
theorem place_slot {S : Int} (hS : 0 < S) {L : Nat} {now due : Int} {k : Int × Int} (h : place S L now due = some k) : 0 ≤ k.1 ∧ k.1 < L ∧ 0 ≤ k.2 ∧ k.2 < S := by
  obtain ⟨l, h1, rfl, _, _⟩ := place_inv h
  exact ⟨by simp, by simp; omega, Int.emod_nonneg _ (by omega), Int.emod_lt_of_pos _ hS⟩
/-- a tick ahead lies in a slot behind the one that it is -/
theorem place_ahead {S : Int} (hS : 0 < S) {L l : Nat} {now due s : Int} (h : place S L now due = some ((l : Int), s)) (hd : now < due) : Qt S l now < Qt S l due ∧ Qt S l now % S < s := by
  obtain ⟨hl, hs, he, hn⟩ := place_low h
  have h1 : Qt S l now ≤ Qt S l due := Qt_mono hS l (by omega)
  have h2 : Qt S l now ≠ Qt S l due := by
    rcases hn with z | z
    · subst z
      rw [Qt_zero, Qt_zero]
      omega
    · exact fun e => z e.symm
  have h3 := Qt_split hS l now
  have h4 := Qt_split hS l due
  rw [he] at h4
  omega

/-- what lies where: R the slots' pairs (due, number), far those in none; W: the pairs that wait -/
structure Good (S : Int) (L : Nat) (now : Int) (R : Int × Int → List (Int × Int)) (far : List (Int × Int)) (W : Int × Int → Prop) : Prop where
  row : ∀ k p, p ∈ R k ↔ W p ∧ place S L now p.1 = some k
  fr : ∀ p, p ∈ far ↔ W p ∧ place S L now p.1 = none
  nd : ∀ k, (R k).Nodup
  ndf : far.Nodup
/-- R with k's pairs changed -/
def put1 (R : Int × Int → List (Int × Int)) (k : Int × Int) (l : List (Int × Int)) : Int × Int → List (Int × Int) := fun j => if j = k then l else R j
theorem put1_same {R : Int × Int → List (Int × Int)} {k : Int × Int} {l : List (Int × Int)} : put1 R k l k = l := by simp [put1]
theorem put1_ne {R : Int × Int → List (Int × Int)} {k j : Int × Int} {l : List (Int × Int)} (h : j ≠ k) : put1 R k l j = R j := by simp [put1, h]
section
variable {S : Int} {L : Nat} {now : Int} {R : Int × Int → List (Int × Int)} {far : List (Int × Int)} {W : Int × Int → Prop}
theorem Good.congr (G : Good S L now R far W) {W' : Int × Int → Prop} (h : ∀ p, W' p ↔ W p) : Good S L now R far W' :=
  ⟨fun k p => by rw [h]; exact G.row k p, fun p => by rw [h]; exact G.fr p, G.nd, G.ndf⟩
theorem Good.empty : Good S L now (fun _ => []) [] (fun _ => False) := ⟨fun _ _ => by simp, fun _ => by simp, fun _ => List.nodup_nil, List.nodup_nil⟩
theorem nodup_snoc {l : List (Int × Int)} {p : Int × Int} (h : l.Nodup) (hp : p ∉ l) : (l ++ [p]).Nodup := by
  rw [List.nodup_append]
  exact ⟨h, by simp, fun a ha b hb e => hp (by rw [List.mem_singleton.mp hb] at e; rw [← e]; exact ha)⟩
theorem Good.put_some (G : Good S L now R far W) {p k : Int × Int} (hp : ¬ W p) (hk : place S L now p.1 = some k) : Good S L now (put1 R k (R k ++ [p])) far (fun q => W q ∨ q = p) := by
  refine ⟨fun j q => ?_, fun q => ?_, fun j => ?_, G.ndf⟩
  · by_cases e : j = k
    · subst e
      rw [put1_same, List.mem_append, G.row, List.mem_singleton]
      constructor
      · rintro (⟨h1, h2⟩ | rfl)
        · exact ⟨.inl h1, h2⟩
        · exact ⟨.inr rfl, hk⟩
      · rintro ⟨h1 | h1, h2⟩
        · exact .inl ⟨h1, h2⟩
        · exact .inr h1
    · rw [put1_ne e, G.row]
      constructor
      · exact fun ⟨h1, h2⟩ => ⟨.inl h1, h2⟩
      · rintro ⟨h1 | rfl, h2⟩
        · exact ⟨h1, h2⟩
        · rw [hk] at h2
          exact absurd (Option.some.inj h2).symm e
  · rw [G.fr]
    constructor
    · exact fun ⟨h1, h2⟩ => ⟨.inl h1, h2⟩
    · rintro ⟨h1 | rfl, h2⟩
      · exact ⟨h1, h2⟩
      · rw [hk] at h2
        cases h2
  · by_cases e : j = k
    · subst e
      rw [put1_same]
      exact nodup_snoc (G.nd _) fun h => hp ((G.row _ _).mp h).1
    · rw [put1_ne e]
      exact G.nd j
theorem Good.put_far (G : Good S L now R far W) {p : Int × Int} (hp : ¬ W p) (hk : place S L now p.1 = none) : Good S L now R (far ++ [p]) (fun q => W q ∨ q = p) := by
  refine ⟨fun j q => ?_, fun q => ?_, G.nd, nodup_snoc G.ndf fun h => hp ((G.fr _).mp h).1⟩
  · rw [G.row]
    constructor
    · exact fun ⟨h1, h2⟩ => ⟨.inl h1, h2⟩
    · rintro ⟨h1 | rfl, h2⟩
      · exact ⟨h1, h2⟩
      · rw [hk] at h2
        cases h2
  · rw [List.mem_append, G.fr, List.mem_singleton]
    constructor
    · rintro (⟨h1, h2⟩ | rfl)
      · exact ⟨.inl h1, h2⟩
      · exact ⟨.inr rfl, hk⟩
    · rintro ⟨h1 | h1, h2⟩
      · exact .inl ⟨h1, h2⟩
      · exact .inr h1
/-- put: the slots, and none -/
def putR (S : Int) (L : Nat) (now : Int) (R : Int × Int → List (Int × Int)) (far : List (Int × Int)) (p : Int × Int) : (Int × Int → List (Int × Int)) × List (Int × Int) :=
  match place S L now p.1 with
  | some k => (put1 R k (R k ++ [p]), far)
  | none => (R, far ++ [p])
theorem putR_some {p k : Int × Int} (h : place S L now p.1 = some k) : putR S L now R far p = (put1 R k (R k ++ [p]), far) := by
  unfold putR
  rw [h]
theorem putR_none {p : Int × Int} (h : place S L now p.1 = none) : putR S L now R far p = (R, far ++ [p]) := by
  unfold putR
  rw [h]
theorem Good.put (G : Good S L now R far W) {p : Int × Int} (hp : ¬ W p) : Good S L now (putR S L now R far p).1 (putR S L now R far p).2 (fun q => W q ∨ q = p) := by
  cases h : place S L now p.1 with
  | none =>
    rw [putR_none h]
    exact G.put_far hp h
  | some k =>
    rw [putR_some h]
    exact G.put_some hp h
theorem mem_eraseIdx_nodup {l : List (Int × Int)} {j : Nat} {p q : Int × Int} (h : l.Nodup) (hj : l[j]? = some p) : q ∈ l.eraseIdx j ↔ q ∈ l ∧ q ≠ p := by
  have e : l.eraseIdx j = l.erase p := by
    rw [List.erase_eq_eraseIdx]
    have hi : l.idxOf? p = some j := by
      rw [List.idxOf?_eq_some_iff]
      obtain ⟨hlt, hv⟩ := List.getElem?_eq_some_iff.mp hj
      refine ⟨hlt, by simpa using hv, fun i hi => ?_⟩
      intro z
      have z' : l[i] = p := by simpa using z
      have := (List.nodup_iff_pairwise_ne.mp h)
      rw [List.pairwise_iff_getElem] at this
      exact this i j (by omega) hlt hi (z'.trans hv.symm)
    rw [hi]
  rw [e]
  constructor
  · intro hq
    refine ⟨List.mem_of_mem_erase hq, fun z => ?_⟩
    subst z
    exact (List.Nodup.not_mem_erase h) hq
  · rintro ⟨h1, h2⟩
    exact (List.mem_erase_of_ne h2).mpr h1
theorem eraseIdx_nodup {l : List (Int × Int)} {j : Nat} (h : l.Nodup) : (l.eraseIdx j).Nodup := (List.eraseIdx_sublist l j).nodup h
theorem Good.drop_some (G : Good S L now R far W) {p k : Int × Int} {j : Nat} (hk : place S L now p.1 = some k) (hj : (R k)[j]? = some p) : Good S L now (put1 R k ((R k).eraseIdx j)) far (fun q => W q ∧ q ≠ p) := by
  refine ⟨fun i q => ?_, fun q => ?_, fun i => ?_, G.ndf⟩
  · by_cases e : i = k
    · subst e
      rw [put1_same, mem_eraseIdx_nodup (G.nd _) hj, G.row]
      exact ⟨fun ⟨⟨h1, h2⟩, h3⟩ => ⟨⟨h1, h3⟩, h2⟩, fun ⟨⟨h1, h3⟩, h2⟩ => ⟨⟨h1, h2⟩, h3⟩⟩
    · rw [put1_ne e, G.row]
      refine ⟨fun ⟨h1, h2⟩ => ⟨⟨h1, fun z => ?_⟩, h2⟩, fun ⟨⟨h1, _⟩, h2⟩ => ⟨h1, h2⟩⟩
      subst z
      rw [hk] at h2
      exact e (Option.some.inj h2).symm
  · rw [G.fr]
    refine ⟨fun ⟨h1, h2⟩ => ⟨⟨h1, fun z => ?_⟩, h2⟩, fun ⟨⟨h1, _⟩, h2⟩ => ⟨h1, h2⟩⟩
    subst z
    rw [hk] at h2
    cases h2
  · by_cases e : i = k
    · subst e
      rw [put1_same]
      exact eraseIdx_nodup (G.nd _)
    · rw [put1_ne e]
      exact G.nd i
theorem Good.drop_far (G : Good S L now R far W) {p : Int × Int} {j : Nat} (hk : place S L now p.1 = none) (hj : far[j]? = some p) : Good S L now R (far.eraseIdx j) (fun q => W q ∧ q ≠ p) := by
  refine ⟨fun i q => ?_, fun q => ?_, G.nd, eraseIdx_nodup G.ndf⟩
  · rw [G.row]
    refine ⟨fun ⟨h1, h2⟩ => ⟨⟨h1, fun z => ?_⟩, h2⟩, fun ⟨⟨h1, _⟩, h2⟩ => ⟨h1, h2⟩⟩
    subst z
    rw [hk] at h2
    cases h2
  · rw [mem_eraseIdx_nodup G.ndf hj, G.fr]
    exact ⟨fun ⟨⟨h1, h2⟩, h3⟩ => ⟨⟨h1, h3⟩, h2⟩, fun ⟨⟨h1, h3⟩, h2⟩ => ⟨⟨h1, h2⟩, h3⟩⟩

/-! ### the soonest -/
/-- all slots ahead of the level l and the slot s are empty -/
def Seen (S : Int) (now : Int) (R : Int × Int → List (Int × Int)) (l : Nat) (s : Int) : Prop :=
  (∀ (j : Nat) (t : Int), j < l → Qt S j now % S < t → t < S → R ((j : Int), t) = []) ∧ ∀ t : Int, Qt S l now % S < t → t < s → R ((l : Int), t) = []
theorem soon_row (hS : 0 < S) (G : Good S L now R far W) (ha : ∀ p, W p → now < p.1) {l : Nat} {s : Int} (hl : l < L) (seen : Seen S now R l s) {p q : Int × Int} (hp : p ∈ R ((l : Int), s)) (hq : W q) (hn : q ∉ R ((l : Int), s)) : p.1 < q.1 := by
  obtain ⟨wp, pp⟩ := (G.row _ _).mp hp
  obtain ⟨_, hs, he, _⟩ := place_low pp
  cases hk : place S L now q.1 with
  | none =>
    have h1 := place_no hk l hl
    have h2 : Qt S (l + 1) now ≤ Qt S (l + 1) q.1 := Qt_mono hS _ (by have := ha q hq; omega)
    exact Qt_lt hS (l := l + 1) (by omega)
  | some k =>
    obtain ⟨l', hl', rfl, he', hn'⟩ := place_inv hk
    have mq : q ∈ R ((l' : Int), Qt S l' q.1 % S) := (G.row _ _).mpr ⟨hq, hk⟩
    obtain ⟨z1, z2⟩ := place_ahead hS hk (ha q hq)
    have z3 : Qt S l' q.1 % S < S := Int.emod_lt_of_pos _ hS
    rcases Nat.lt_trichotomy l' l with h | h | h
    · have := seen.1 l' _ h z2 z3
      rw [this] at mq
      cases mq
    · subst h
      have hs' : Qt S l' q.1 % S ≠ s := fun z => hn (by rw [← z]; exact mq)
      have h5 : ¬ Qt S l' q.1 % S < s := fun z => by
        have := seen.2 _ z2 z
        rw [this] at mq
        cases mq
      refine Qt_lt hS (l := l') ?_
      have a1 := Qt_split hS l' p.1
      have a2 := Qt_split hS l' q.1
      rw [he] at a1
      rw [he'] at a2
      omega
    · have h1 := hn' l h
      have h2 : Qt S (l + 1) now ≤ Qt S (l + 1) q.1 := Qt_mono hS _ (by have := ha q hq; omega)
      exact Qt_lt hS (l := l + 1) (by omega)
theorem soon_far (hS : 0 < S) (G : Good S L now R far W) (ha : ∀ p, W p → now < p.1) (seen : ∀ (j : Nat) (t : Int), j < L → Qt S j now % S < t → t < S → R ((j : Int), t) = []) {q : Int × Int} (hq : W q) : q ∈ far := by
  refine (G.fr q).mpr ⟨hq, ?_⟩
  cases hk : place S L now q.1 with
  | none => rfl
  | some k =>
    obtain ⟨l', hl', rfl, he', hn'⟩ := place_inv hk
    have mq : q ∈ R ((l' : Int), Qt S l' q.1 % S) := (G.row _ _).mpr ⟨hq, hk⟩
    obtain ⟨z1, z2⟩ := place_ahead hS hk (ha q hq)
    rw [seen l' _ hl' z2 (Int.emod_lt_of_pos _ hS)] at mq
    cases mq

/-! ### time goes on: what is moved -/
/-- the pair is moved, when the time goes on from now to then -/
def Moved (S : Int) (L : Nat) (now t : Int) (d : Int) : Prop :=
  (place S L now d = none ∧ Qt S L now ≠ Qt S L t) ∨ ∃ l : Nat, 1 ≤ l ∧ l < L ∧ Qt S l now ≠ Qt S l t ∧ place S L now d = some ((l : Int), Qt S l t % S)
/-- the slot is taken out -/
def Out (S : Int) (L : Nat) (now t : Int) (k : Int × Int) : Prop := ∃ l : Nat, 1 ≤ l ∧ l < L ∧ Qt S l now ≠ Qt S l t ∧ k = ((l : Int), Qt S l t % S)
theorem stays (hS : 0 < S) {t d : Int} (h1 : now ≤ t) (h2 : t ≤ d) (hm : ¬ Moved S L now t d) (hL : 0 < L) : place S L t d = place S L now d := by
  cases hk : place S L now d with
  | none =>
    have e : Qt S L now = Qt S L t := Classical.byContradiction fun z => hm (.inl ⟨hk, z⟩)
    refine place_none fun j hj z => ?_
    have h3 := place_no hk (L - 1) (by omega)
    have h4 : L - 1 + 1 = L := by omega
    rw [h4, e] at h3
    exact h3 (Qt_up hS z (by omega))
  | some k =>
    obtain ⟨l, hl, rfl, he, hn⟩ := place_inv hk
    obtain ⟨_, _, _, hlow⟩ := place_low hk
    have e1 : Qt S (l + 1) d = Qt S (l + 1) t := by
      have a1 : Qt S (l + 1) now ≤ Qt S (l + 1) t := Qt_mono hS _ h1
      have a2 : Qt S (l + 1) t ≤ Qt S (l + 1) d := Qt_mono hS _ h2
      omega
    refine place_at hS hl e1 ?_
    rcases hlow with z | z
    · exact .inl z
    · by_cases z0 : l = 0
      · exact .inl z0
      refine .inr fun e => ?_
      by_cases e2 : Qt S l now = Qt S l t
      · rw [e2] at z
        exact z e
      · exact hm (.inr ⟨l, by omega, hl, e2, by rw [hk, e]⟩)
/-- what stays lies rightly at the later tick -/
theorem Good.turn (hS : 0 < S) (hL : 0 < L) (G : Good S L now R far W) {t : Int} (h1 : now ≤ t) (h2 : ∀ p, W p → t ≤ p.1) {R' : Int × Int → List (Int × Int)} {far' : List (Int × Int)}
    (hR1 : ∀ k, Out S L now t k → R' k = []) (hR2 : ∀ k, ¬ Out S L now t k → R' k = R k) (hF1 : Qt S L now ≠ Qt S L t → far' = []) (hF2 : Qt S L now = Qt S L t → far' = far) : Good S L t R' far' (fun p => W p ∧ ¬ Moved S L now t p.1) := by
  have key : ∀ p, W p → ∀ k, place S L now p.1 = some k → (Moved S L now t p.1 ↔ Out S L now t k) := fun p hp k hk => by
    constructor
    · rintro (⟨a, _⟩ | ⟨l, a1, a2, a3, a4⟩)
      · rw [hk] at a
        cases a
      · rw [hk] at a4
        exact ⟨l, a1, a2, a3, Option.some.inj a4⟩
    · rintro ⟨l, a1, a2, a3, a4⟩
      exact .inr ⟨l, a1, a2, a3, by rw [hk, a4]⟩
  refine ⟨fun k p => ?_, fun p => ?_, fun k => ?_, ?_⟩
  · constructor
    · intro hp
      by_cases ho : Out S L now t k
      · rw [hR1 k ho] at hp
        cases hp
      · rw [hR2 k ho] at hp
        obtain ⟨wp, pk⟩ := (G.row _ _).mp hp
        have nm : ¬ Moved S L now t p.1 := fun z => ho ((key p wp k pk).mp z)
        exact ⟨⟨wp, nm⟩, by rw [stays hS h1 (h2 p wp) nm hL]; exact pk⟩
    · rintro ⟨⟨wp, nm⟩, pk⟩
      rw [stays hS h1 (h2 p wp) nm hL] at pk
      rw [hR2 k fun z => nm ((key p wp k pk).mpr z)]
      exact (G.row _ _).mpr ⟨wp, pk⟩
  · constructor
    · intro hp
      by_cases ho : Qt S L now = Qt S L t
      · rw [hF2 ho] at hp
        obtain ⟨wp, pk⟩ := (G.fr _).mp hp
        have nm : ¬ Moved S L now t p.1 := by
          rintro (⟨_, a⟩ | ⟨l, _, _, _, a4⟩)
          · exact a ho
          · rw [pk] at a4
            cases a4
        exact ⟨⟨wp, nm⟩, by rw [stays hS h1 (h2 p wp) nm hL]; exact pk⟩
      · rw [hF1 ho] at hp
        cases hp
    · rintro ⟨⟨wp, nm⟩, pk⟩
      rw [stays hS h1 (h2 p wp) nm hL] at pk
      rw [hF2 (Classical.byContradiction fun z => nm (.inl ⟨pk, z⟩))]
      exact (G.fr _).mpr ⟨wp, pk⟩
  · by_cases ho : Out S L now t k
    · rw [hR1 k ho]
      exact List.nodup_nil
    · rw [hR2 k ho]
      exact G.nd k
  · by_cases ho : Qt S L now = Qt S L t
    · rw [hF2 ho]
      exact G.ndf
    · rw [hF1 ho]
      exact List.nodup_nil
/-- the slot of the very tick has what is due now -/
theorem Good.at_now (hS : 0 < S) (hL : 0 < L) (G : Good S L now R far W) (p : Int × Int) : p ∈ R (0, now % S) ↔ W p ∧ p.1 = now := by
  constructor
  · intro h
    obtain ⟨w, pk⟩ := (G.row _ _).mp h
    refine ⟨w, ?_⟩
    obtain ⟨_, hs, he, _⟩ := place_low (l := 0) pk
    rw [Qt_zero] at hs
    have a1 := Qt_split hS 0 p.1
    have a2 := Qt_split hS 0 now
    rw [he] at a1
    rw [Qt_zero] at a1 a2
    omega
  · rintro ⟨w, e⟩
    refine (G.row _ _).mpr ⟨w, ?_⟩
    have := place_at (S := S) (L := L) (now := now) (due := p.1) (l := 0) hS hL (by rw [e]) (.inl rfl)
    rw [this, Qt_zero, e]
    rfl
theorem Good.take_now (hS : 0 < S) (hL : 0 < L) (G : Good S L now R far W) : Good S L now (put1 R (0, now % S) []) far (fun p => W p ∧ p.1 ≠ now) := by
  have hn := G.at_now hS hL
  refine ⟨fun k p => ?_, fun p => ?_, fun k => ?_, G.ndf⟩
  · by_cases e : k = (0, now % S)
    · subst e
      rw [put1_same]
      refine ⟨fun h => (nomatch h), fun ⟨⟨h1, h2⟩, h3⟩ => ?_⟩
      exact absurd ((hn p).mp ((G.row _ _).mpr ⟨h1, h3⟩)).2 h2
    · rw [put1_ne e, G.row]
      refine ⟨fun ⟨h1, h2⟩ => ⟨⟨h1, fun z => ?_⟩, h2⟩, fun ⟨⟨h1, _⟩, h2⟩ => ⟨h1, h2⟩⟩
      have := ((G.row _ _).mp ((hn p).mpr ⟨h1, z⟩)).2
      rw [h2] at this
      exact e (Option.some.inj this)
  · rw [G.fr]
    refine ⟨fun ⟨h1, h2⟩ => ⟨⟨h1, fun z => ?_⟩, h2⟩, fun ⟨⟨h1, _⟩, h2⟩ => ⟨h1, h2⟩⟩
    have := ((G.row _ _).mp ((hn p).mpr ⟨h1, z⟩)).2
    rw [h2] at this
    cases this
  · by_cases e : k = (0, now % S)
    · subst e
      rw [put1_same]
      exact List.nodup_nil
    · rw [put1_ne e]
      exact G.nd k
/-- there are few -/
def Few (W : Int × Int → Prop) : Prop := ∀ l : List (Int × Int), l.Nodup → (∀ p, p ∈ l → W p) → l.length ≤ 1000
theorem Few.sub {W W' : Int × Int → Prop} (h : Few W) (s : ∀ p, W' p → W p) : Few W' := fun l a b => h l a fun p hp => s p (b p hp)
theorem Good.lens (G : Good S L now R far W) (h : Few W) : (∀ k, (R k).length ≤ 1000) ∧ far.length ≤ 1000 :=
  ⟨fun k => h _ (G.nd k) fun p hp => ((G.row k p).mp hp).1, h _ G.ndf fun p hp => ((G.fr p).mp hp).1⟩
/-- the slots of level b and above that are taken out -/
def OutF (S : Int) (L : Nat) (now t : Int) (b : Nat) (k : Int × Int) : Prop := ∃ l : Nat, 1 ≤ l ∧ b ≤ l ∧ l < L ∧ Qt S l now ≠ Qt S l t ∧ k = ((l : Int), Qt S l t % S)
/-- the pairs that are taken out with them -/
def AgM (S : Int) (L : Nat) (now t : Int) (W : Int × Int → Prop) (b : Nat) (p : Int × Int) : Prop :=
  W p ∧ ((place S L now p.1 = none ∧ Qt S L now ≠ Qt S L t) ∨ ∃ l : Nat, 1 ≤ l ∧ b ≤ l ∧ l < L ∧ Qt S l now ≠ Qt S l t ∧ place S L now p.1 = some ((l : Int), Qt S l t % S))
theorem outF_one {t : Int} {k : Int × Int} : OutF S L now t 1 k ↔ Out S L now t k := ⟨fun ⟨l, a, _, b, c, d⟩ => ⟨l, a, b, c, d⟩, fun ⟨l, a, b, c, d⟩ => ⟨l, a, a, b, c, d⟩⟩
theorem agM_one {t : Int} {p : Int × Int} : AgM S L now t W 1 p ↔ W p ∧ Moved S L now t p.1 := by
  constructor
  · rintro ⟨w, h | ⟨l, a, _, b, c, d⟩⟩
    · exact ⟨w, .inl h⟩
    · exact ⟨w, .inr ⟨l, a, b, c, d⟩⟩
  · rintro ⟨w, h | ⟨l, a, b, c, d⟩⟩
    · exact ⟨w, .inl h⟩
    · exact ⟨w, .inr ⟨l, a, a, b, c, d⟩⟩
theorem outF_top {t : Int} {k : Int × Int} : ¬ OutF S L now t L k := fun ⟨l, _, a, b, _⟩ => by omega
theorem outF_step {t : Int} {b : Nat} {k : Int × Int} (hb : 1 ≤ b) (hL : b < L) : OutF S L now t b k ↔ OutF S L now t (b + 1) k ∨ (Qt S b now ≠ Qt S b t ∧ k = ((b : Int), Qt S b t % S)) := by
  constructor
  · rintro ⟨l, a1, a2, a3, a4, a5⟩
    by_cases e : l = b
    · subst e
      exact .inr ⟨a4, a5⟩
    · exact .inl ⟨l, a1, by omega, a3, a4, a5⟩
  · rintro (⟨l, a1, a2, a3, a4, a5⟩ | ⟨a4, a5⟩)
    · exact ⟨l, a1, by omega, a3, a4, a5⟩
    · exact ⟨b, hb, Nat.le_refl b, hL, a4, a5⟩
theorem agM_top {t : Int} {p : Int × Int} : AgM S L now t W L p ↔ W p ∧ place S L now p.1 = none ∧ Qt S L now ≠ Qt S L t := by
  constructor
  · rintro ⟨w, h | ⟨l, _, a, b, _⟩⟩
    · exact ⟨w, h⟩
    · omega
  · rintro ⟨w, h⟩
    exact ⟨w, .inl h⟩
theorem agM_step {t : Int} {b : Nat} {p : Int × Int} (hb : 1 ≤ b) (hL : b < L) : AgM S L now t W b p ↔ AgM S L now t W (b + 1) p ∨ (Qt S b now ≠ Qt S b t ∧ W p ∧ place S L now p.1 = some ((b : Int), Qt S b t % S)) := by
  constructor
  · rintro ⟨w, h | ⟨l, a1, a2, a3, a4, a5⟩⟩
    · exact .inl ⟨w, .inl h⟩
    · by_cases e : l = b
      · subst e
        exact .inr ⟨a4, w, a5⟩
      · exact .inl ⟨w, .inr ⟨l, a1, by omega, a3, a4, a5⟩⟩
  · rintro (⟨w, h | ⟨l, a1, a2, a3, a4, a5⟩⟩ | ⟨a4, w, a5⟩)
    · exact ⟨w, .inl h⟩
    · exact ⟨w, .inr ⟨l, a1, by omega, a3, a4, a5⟩⟩
    · exact ⟨w, .inr ⟨b, hb, Nat.le_refl b, hL, a4, a5⟩⟩
theorem agM_new {t : Int} {b : Nat} {p : Int × Int} (h : AgM S L now t W (b + 1) p) : place S L now p.1 ≠ some ((b : Int), Qt S b t % S) := fun e => by
  obtain ⟨_, ⟨h, _⟩ | ⟨l, _, a2, _, _, a5⟩⟩ := h
  · rw [h] at e
    cases e
  · rw [a5] at e
    have := congrArg Prod.fst (Option.some.inj e)
    simp only at this
    omega
end
end TkM
set_option Elab.async false
set_option linter.all false
set_option maxHeartbeats 1000000
/-! The plain laws of alarms: what rings, one behind the other, and what is left. -/
namespace TkM
theorem nodup_sub {A : Type} : ∀ (l m : List A), l.Nodup → (∀ x, x ∈ l → x ∈ m) → l.length ≤ m.length
  | [], _, _, _ => Nat.zero_le _
  | x :: l, m, h, hs => by
    have hx : x ∈ m := hs x List.mem_cons_self
    obtain ⟨m1, m2, e⟩ := List.append_of_mem hx
    have h' := List.nodup_cons.mp h
    have := nodup_sub l (m1 ++ m2) h'.2 fun y hy => by
      have h1 := hs y (List.mem_cons_of_mem _ hy)
      rw [e, List.mem_append, List.mem_cons] at h1
      rw [List.mem_append]
      rcases h1 with h1 | h1 | h1
      · exact .inl h1
      · exact absurd (h1 ▸ hy) h'.1
      · exact .inr h1
    rw [e]
    simp only [List.length_append, List.length_cons] at this ⊢
    omega
/-- an alarm: its name, its step, whether it rests, its tick (while it rests: what is left) -/
structure Al (N : Type) where
  name : N
  step : Option Int
  rests : Bool
  val : Int
abbrev Mp (N : Type) := Int → Option (Al N)
abbrev Tr (N : Type) := Int × Int × N
section
variable {N : Type}
/-- the pair (due, number) waits -/
def Wt (m : Mp N) (p : Int × Int) : Prop := ∃ a, m p.2 = some a ∧ a.rests = false ∧ a.val = p.1
def setM (m : Mp N) (n : Int) (o : Option (Al N)) : Mp N := fun j => if j = n then o else m j
theorem setM_same {m : Mp N} {n : Int} {o : Option (Al N)} : setM m n o n = o := by simp [setM]
theorem setM_ne {m : Mp N} {n j : Int} {o : Option (Al N)} (h : j ≠ n) : setM m n o j = m j := by simp [setM, h]
theorem setM_self {m : Mp N} {n : Int} {o : Option (Al N)} (h : m n = o) : setM m n o = m := by
  funext j
  by_cases e : j = n
  · rw [e, setM_same, h]
  · rw [setM_ne e]
theorem setM_setM {m : Mp N} {n : Int} {o o' : Option (Al N)} : setM (setM m n o) n o' = setM m n o' := by
  funext j
  by_cases e : j = n
  · rw [e, setM_same, setM_same]
  · rw [setM_ne e, setM_ne e, setM_ne e]
def lt2 (t n t' n' : Int) : Prop := t < t' ∨ (t = t' ∧ n < n')
/-- what becomes of an alarm that rings -/
def After (a : Al N) : Option (Al N) := match a.step with
  | none => none
  | some s => some { a with val := a.val + s }
/-- the ticks at which it rings -/
def Hits (a : Al N) (t : Int) : Prop := match a.step with
  | none => t = a.val
  | some s => ∃ k : Nat, t = a.val + k * s
def Rings (m : Mp N) (x : Tr N) : Prop := ∃ a, m x.2.1 = some a ∧ a.rests = false ∧ x.2.2 = a.name ∧ Hits a x.1
/-- all steps are steps -/
def Stp (m : Mp N) : Prop := ∀ n a s, m n = some a → a.step = some s → 1 ≤ s
theorem hits_ge {a : Al N} {t : Int} (h : Hits a t) (hs : ∀ s, a.step = some s → 1 ≤ s) : a.val ≤ t := by
  unfold Hits at h
  cases e : a.step with
  | none =>
    rw [e] at h
    simp only at h
    omega
  | some s =>
    rw [e] at h
    obtain ⟨k, h⟩ := h
    have := hs s e
    have : 0 ≤ (k : Int) * s := Int.mul_nonneg (by omega) (by omega)
    omega
/-- part of the way: from m0, told has rung, m is left -/
structure Part (m0 m : Mp N) (told : List (Tr N)) : Prop where
  srt : told.Pairwise fun x y => lt2 x.1 x.2.1 y.1 y.2.1
  past : ∀ x ∈ told, ∀ p, Wt m p → lt2 x.1 x.2.1 p.1 p.2
  all : ∀ x, Rings m0 x ↔ x ∈ told ∨ Rings m x
  stp : Stp m
  evol : ∀ n, m n = m0 n ∨ ∃ a, m0 n = some a ∧ a.rests = false ∧ ((a.step = none ∧ m n = none ∧ (a.val, n, a.name) ∈ told) ∨
    ∃ (s : Int) (k : Nat), a.step = some s ∧ m n = some { a with val := a.val + ((k : Int) + 1) * s } ∧ (a.val + (k : Int) * s, n, a.name) ∈ told)
theorem Part.start {m : Mp N} (h : Stp m) : Part m m [] := ⟨.nil, fun _ h => (nomatch h), fun x => by simp, h, fun n => .inl rfl⟩
theorem lt2_trans {a b c d e f : Int} (h : lt2 a b c d) (h' : lt2 c d e f) : lt2 a b e f := by
  unfold lt2 at *
  omega
theorem Stp.after {m : Mp N} (h : Stp m) {n : Int} {a : Al N} (ha : m n = some a) : Stp (setM m n (After a)) := fun j b s hb hs => by
  by_cases e : j = n
  · subst e
    rw [setM_same] at hb
    unfold After at hb
    cases es : a.step with
    | none =>
      rw [es] at hb
      cases hb
    | some s' =>
      rw [es] at hb
      cases hb
      simp only at hs
      exact h _ a s ha (by rw [es]; exact hs)
  · rw [setM_ne e] at hb
    exact h j b s hb hs
theorem rings_after {m : Mp N} {n : Int} {a : Al N} (ha : m n = some a) (hr : a.rests = false) (x : Tr N) : Rings m x ↔ x = (a.val, n, a.name) ∨ Rings (setM m n (After a)) x := by
  obtain ⟨t, j, nm⟩ := x
  by_cases e : j = n
  · subst e
    constructor
    · rintro ⟨b, hb, h1, h2, h3⟩
      simp only at hb h2 h3
      rw [ha] at hb
      cases hb
      subst h2
      cases es : a.step with
      | none =>
        unfold Hits at h3
        rw [es] at h3
        simp only at h3
        subst h3
        exact .inl rfl
      | some s =>
        unfold Hits at h3
        rw [es] at h3
        obtain ⟨k, hk⟩ := h3
        cases k with
        | zero =>
          left
          have : t = a.val := by rw [hk]; simp
          rw [this]
        | succ k =>
          right
          refine ⟨{ a with val := a.val + s }, ?_, hr, rfl, ?_⟩
          · show setM m j (After a) j = _
            rw [setM_same]
            unfold After
            rw [es]
          · unfold Hits
            simp only [es]
            refine ⟨k, ?_⟩
            rw [hk, Int.natCast_succ, Int.add_mul]
            omega
    · rintro (h | ⟨b, hb, h1, h2, h3⟩)
      · cases h
        refine ⟨a, ha, hr, rfl, ?_⟩
        unfold Hits
        cases es : a.step with
        | none => rfl
        | some s => exact ⟨0, by simp⟩
      · simp only [setM_same] at hb
        unfold After at hb
        cases es : a.step with
        | none =>
          rw [es] at hb
          cases hb
        | some s =>
          rw [es] at hb
          cases hb
          refine ⟨a, ha, hr, h2, ?_⟩
          unfold Hits at h3 ⊢
          simp only [es] at h3 ⊢
          obtain ⟨k, hk⟩ := h3
          refine ⟨k + 1, ?_⟩
          rw [hk, Int.natCast_succ, Int.add_mul]
          omega
  · constructor
    · rintro ⟨b, hb, h1, h2, h3⟩
      exact .inr ⟨b, by rw [setM_ne e]; exact hb, h1, h2, h3⟩
    · rintro (h | ⟨b, hb, h1, h2, h3⟩)
      · cases h
        exact absurd rfl e
      · rw [setM_ne e] at hb
        exact ⟨b, hb, h1, h2, h3⟩
/-- one rings -/
theorem Part.ring {m0 m : Mp N} {told : List (Tr N)} (P : Part m0 m told) {n : Int} {a : Al N} (ha : m n = some a) (hr : a.rests = false) (hmin : ∀ p, Wt m p → p = (a.val, n) ∨ lt2 a.val n p.1 p.2) :
    Part m0 (setM m n (After a)) (told ++ [(a.val, n, a.name)]) := by
  have wn : Wt m (a.val, n) := ⟨a, ha, hr, rfl⟩
  have ws : ∀ p, Wt (setM m n (After a)) p → (p.2 ≠ n ∧ Wt m p) ∨ (p.2 = n ∧ a.val < p.1) := fun p hp => by
    obtain ⟨b, hb, h1, h2⟩ := hp
    by_cases e : p.2 = n
    · right
      refine ⟨e, ?_⟩
      rw [e, setM_same] at hb
      unfold After at hb
      cases es : a.step with
      | none =>
        rw [es] at hb
        cases hb
      | some s =>
        rw [es] at hb
        cases hb
        have := P.stp n a s ha es
        simp only at h2
        omega
    · rw [setM_ne e] at hb
      exact .inl ⟨e, b, hb, h1, h2⟩
  refine ⟨?_, fun x hx p hp => ?_, fun x => ?_, P.stp.after ha, fun j => ?_⟩
  · rw [List.pairwise_append]
    refine ⟨P.srt, List.pairwise_singleton _ _, fun x hx y hy => ?_⟩
    rw [List.mem_singleton.mp hy]
    exact P.past x hx _ wn
  · rw [List.mem_append, List.mem_singleton] at hx
    rcases hx with hx | rfl
    · rcases ws p hp with ⟨_, w⟩ | ⟨e1, e2⟩
      · exact P.past x hx p w
      · refine lt2_trans (P.past x hx _ wn) (.inl e2)
    · rcases ws p hp with ⟨e1, w⟩ | ⟨e1, e2⟩
      · rcases hmin p w with e | h
        · rw [e] at e1
          exact absurd rfl e1
        · exact h
      · exact .inl e2
  · rw [P.all, rings_after ha hr, List.mem_append, List.mem_singleton]
    constructor
    · rintro (h | h | h)
      · exact .inl (.inl h)
      · exact .inl (.inr h)
      · exact .inr h
    · rintro ((h | h) | h)
      · exact .inl h
      · exact .inr (.inl h)
      · exact .inr (.inr h)
  · by_cases e : j = n
    · subst e
      right
      rw [setM_same]
      have inTold : (a.val, j, a.name) ∈ told ++ [(a.val, j, a.name)] := List.mem_append.mpr (.inr (List.mem_singleton.mpr rfl))
      rcases P.evol j with h | ⟨b, h1, h2, h3⟩
      · rw [ha] at h
        refine ⟨a, h.symm, hr, ?_⟩
        unfold After
        cases es : a.step with
        | none => exact .inl ⟨rfl, rfl, inTold⟩
        | some s => exact .inr ⟨s, 0, rfl, by simp, by simpa using inTold⟩
      · refine ⟨b, h1, h2, ?_⟩
        rcases h3 with ⟨h3, h4, _⟩ | ⟨s, k, h3, h4, _⟩
        · rw [ha] at h4
          cases h4
        · right
          rw [ha] at h4
          have e1 : a = { b with val := b.val + ((k : Int) + 1) * s } := Option.some.inj h4
          refine ⟨s, k + 1, h3, ?_, ?_⟩
          · unfold After
            rw [e1]
            simp only [h3]
            congr 2
            rw [Int.natCast_succ, Int.add_mul (↑k + 1) 1 s]
            omega
          · have e2 : a.val = b.val + ((k : Int) + 1) * s := by rw [e1]
            have e3 : a.name = b.name := by rw [e1]
            rw [e2, e3] at inTold
            rw [Int.natCast_succ]
            rw [e2, e3]
            exact inTold
    · rw [setM_ne e]
      rcases P.evol j with h | ⟨b, h1, h2, h3⟩
      · exact .inl h
      · refine .inr ⟨b, h1, h2, ?_⟩
        rcases h3 with ⟨h3, h4, h5⟩ | ⟨s, k, h3, h4, h5⟩
        · exact .inl ⟨h3, h4, List.mem_append.mpr (.inl h5)⟩
        · exact .inr ⟨s, k, h3, h4, List.mem_append.mpr (.inl h5)⟩
/-- what is told of the time up to goal -/
structure Told (m : Mp N) (goal : Int) (told : List (Tr N)) : Prop where
  srt : told.Pairwise fun x y => lt2 x.1 x.2.1 y.1 y.2.1
  mem : ∀ x, x ∈ told ↔ Rings m x ∧ x.1 ≤ goal
/-- what is left at goal -/
def advA (g : Int) (a : Al N) : Option (Al N) := if a.rests = true ∨ g < a.val then some a else match a.step with
  | none => none
  | some s => some { a with val := a.val + ((g - a.val) / s + 1) * s }
def adv (m : Mp N) (g : Int) : Mp N := fun n => (m n).bind (advA g)
theorem Part.done {m0 m : Mp N} {told : List (Tr N)} {goal : Int} (P : Part m0 m told) (hw : ∀ p, Wt m p → goal < p.1) (ht : ∀ x ∈ told, x.1 ≤ goal) : Told m0 goal told ∧ m = adv m0 goal := by
  refine ⟨⟨P.srt, fun x => ⟨fun h => ⟨(P.all x).mpr (.inl h), ht x h⟩, fun ⟨h1, h2⟩ => ?_⟩⟩, ?_⟩
  · rcases (P.all x).mp h1 with h | ⟨a, h3, h4, h5, h6⟩
    · exact h
    · have := hits_ge h6 fun s hs => P.stp _ a s h3 hs
      have := hw (a.val, x.2.1) ⟨a, h3, h4, rfl⟩
      simp only at this
      omega
  · funext n
    rcases P.evol n with h | ⟨a, h1, h2, ⟨h3, h4, h5⟩ | ⟨s, k, h3, h4, h5⟩⟩
    · unfold adv
      rw [← h]
      cases e : m n with
      | none => rfl
      | some a =>
        show some a = advA goal a
        unfold advA
        rw [if_pos]
        by_cases hr : a.rests = true
        · exact .inl hr
        · exact .inr (hw (a.val, n) ⟨a, e, by simpa using hr, rfl⟩)
    · unfold adv
      rw [h1, h4]
      show none = advA goal a
      unfold advA
      have := ht _ h5
      simp only at this
      rw [if_neg (by rw [h2]; rintro (z | z) <;> first | (cases z; done) | omega), h3]
    · unfold adv
      rw [h1, h4]
      show some _ = advA goal a
      unfold advA
      have b1 := ht _ h5
      simp only at b1
      have b2 := hw (a.val + ((k : Int) + 1) * s, n) ⟨_, h4, h2, rfl⟩
      simp only at b2
      have hs1 : 1 ≤ s := P.stp n _ s h4 h3
      have hk : 0 ≤ (k : Int) * s := Int.mul_nonneg (by omega) (by omega)
      rw [if_neg (by rw [h2]; rintro (z | z) <;> first | (cases z; done) | omega), h3]
      have : (goal - a.val) / s = (k : Int) := by
        have e1 : ((k : Int) + 1) * s = (k : Int) * s + s := by rw [Int.add_mul]; omega
        refine (Int.ediv_eq_iff_of_pos (by omega)).mpr ?_
        first
          | omega
          | (constructor <;> omega)
          | (rw [Int.mul_comm]; omega)
      show _ = some { a with val := a.val + ((goal - a.val) / s + 1) * s, step := some s }
      rw [this]
theorem told_nodup {told : List (Tr N)} (h : told.Pairwise fun x y => lt2 x.1 x.2.1 y.1 y.2.1) : told.Nodup := by
  refine h.imp fun {a b} h e => ?_
  subst e
  unfold lt2 at h
  omega
theorem told_uniq {t1 t2 : List (Tr N)} (h1 : t1.Pairwise fun x y => lt2 x.1 x.2.1 y.1 y.2.1) (h2 : t2.Pairwise fun x y => lt2 x.1 x.2.1 y.1 y.2.1) (h : ∀ x, x ∈ t1 ↔ x ∈ t2) : t1 = t2 := by
  refine List.Perm.eq_of_pairwise (le := fun x y => lt2 x.1 x.2.1 y.1 y.2.1) (fun a b _ _ x y => ?_) h1 h2 ((List.perm_ext_iff_of_nodup (told_nodup h1) (told_nodup h2)).mpr h)
  unfold lt2 at x y
  omega
theorem Told.uniq {m : Mp N} {g : Int} {t1 t2 : List (Tr N)} (h1 : Told m g t1) (h2 : Told m g t2) : t1 = t2 := told_uniq h1.srt h2.srt fun x => by rw [h1.mem, h2.mem]
end
end TkM
set_option Elab.async false
set_option linter.all false
set_option maxRecDepth 100000
set_option maxHeartbeats 1000000
/-! What wheels look like in the heap; what stays and what changes. -/
namespace L2.TK
open PySem PySem.Spec TkM

/-! ### dicts by their values -/
section
variable {κ : Type} [DecidableEq κ]
theorem valV_drop (kvs : List (κ × V)) (k j : κ) : valV (dropK kvs k) j = if j = k then none else valV kvs j := by
  induction kvs with
  | nil =>
    show valV [] j = _
    rw [valV_nil]
    split <;> rfl
  | cons p r ih =>
    by_cases e : p.1 = k
    · rw [dropK_pos e, ih]
      by_cases ej : j = k
      · rw [if_pos ej, if_pos ej]
      · rw [if_neg ej, if_neg ej, valV_neg (fun z => ej (z.symm.trans e))]
    · rw [dropK_neg e]
      by_cases ep : p.1 = j
      · rw [valV_pos ep, if_neg (fun z => e (ep.trans z)), valV_pos ep]
      · rw [valV_neg ep, valV_neg ep, ih]
end
/-! ### what changes, what stays -/
/-- F may be changed (and becomes F'), all else stays -/
structure Ch (F F' : Addr → Prop) (H H' : Hp) : Prop where
  kp : ∀ a o, H a = some o → ¬ F a → H' a = some o
  gr : ∀ a, F' a → F a ∨ H a = none
  st : ∀ a, H' a = none → H a = none
theorem Ch.refl {F : Addr → Prop} {H : Hp} : Ch F F H H := ⟨fun _ _ h _ => h, fun _ h => .inl h, fun _ h => h⟩
theorem Ch.trans {F F' F'' : Addr → Prop} {H H' H'' : Hp} (a : Ch F F' H H') (b : Ch F' F'' H' H'') : Ch F F'' H H'' := by
  refine ⟨fun c o h n => b.kp c o (a.kp c o h n) fun z => ?_, fun c h => ?_, fun c h => a.st c (b.st c h)⟩
  · rcases a.gr c z with z | z
    · exact n z
    · rw [h] at z
      cases z
  · rcases b.gr c h with z | z
    · exact a.gr c z
    · cases q : H c with
      | none => exact .inr rfl
      | some o =>
        by_cases f : F c
        · exact .inl f
        · rw [a.kp c o q f] at z
          cases z
/-- H and H' are alike on F and on tuples -/
def On (F : Addr → Prop) (H H' : Hp) : Prop := ∀ a o, H a = some o → (F a ∨ ∃ xs, o = .tup xs) → H' a = some o
theorem On.refl {F : Addr → Prop} {H : Hp} : On F H H := fun _ _ h _ => h
theorem On.trans {F : Addr → Prop} {H H' H'' : Hp} (a : On F H H') (b : On F H' H'') : On F H H'' := fun c o h z => b c o (a c o h z) z
theorem On.mono {F F' : Addr → Prop} {H H' : Hp} (a : On F H H') (h : ∀ c, F' c → F c) : On F' H H' := fun c o q z => a c o q (z.imp (h c) id)
theorem On.same {F : Addr → Prop} {H H' : Hp} (h : Same H H') : On F H H' := fun a o q _ => h a o q
/-- a new object -/
theorem Same.new {H : Hp} {p : Addr} {o : HO} (h : H p = none) : Same H (upd H p o) := fun b u q => by
  rw [upd_ne (ne_of_none q h)]
  exact q
theorem Ch.on {F F' G : Addr → Prop} {H H' : Hp} (c : Ch F F' H H') (own : ∀ a, F a → Mut (H a)) (d : ∀ a, G a → ¬ F a) : On G H H' := fun a o q z => by
  refine c.kp a o q fun f => ?_
  rcases z with z | ⟨xs, rfl⟩
  · exact d a z f
  · have := own a f
    rw [q] at this
    exact this
theorem Ch.of1 {F F' : Addr → Prop} {H H' : Hp} {x : Addr} (kp : ∀ a o, H a = some o → ¬ F a → H' a = some o) (gr : ∀ a, F' a → F a ∨ H a = none) (k : ∀ a o, a ≠ x → H a = some o → H' a = some o) (hx : ∃ o, H' x = some o) : Ch F F' H H' :=
  ⟨kp, gr, fun a h => by
    cases q : H a with
    | none => rfl
    | some o =>
      by_cases z : a = x
      · obtain ⟨o', e⟩ := hx
        rw [z, e] at h
        cases h
      · rw [k a o z q] at h
        cases h⟩
theorem Same.ch {F : Addr → Prop} {H H' : Hp} (h : Same H H') : Ch F F H H' := ⟨fun a o q _ => h a o q, fun _ h => .inl h, fun a z => by
    cases q : H a with
    | none => rfl
    | some o =>
      rw [h a o q] at z
      cases z⟩
theorem Ch.upd {F : Addr → Prop} {H H1 : Hp} {a : Addr} {o : HO} (fa : F a) (s : Same H H1) : Ch F F H (L2.upd H1 a o) := Ch.of1 (x := a) (fun b u e n => by
  rw [upd_ne (fun z => n (by rw [z]; exact fa))]
  exact s b u e) (fun _ h => .inl h) (fun b u n e => by
  rw [upd_ne n]
  exact s b u e) ⟨o, upd_same⟩
theorem mut_some {H : Hp} {a : Addr} (h : Mut (H a)) : ∃ o, H a = some o := by
  cases e : H a with
  | none =>
    rw [e] at h
    exact h.elim
  | some o => exact ⟨o, rfl⟩
/-! ### lists of pairs -/
def TsAt (H : Hp) (ts : List Addr) (ps : List (Int × Int)) : Prop := Paired (fun (t : Addr) (p : Int × Int) => H t = some (.tup [.int p.1, .int p.2])) ts ps
def PL (H : Hp) (a : Addr) (ps : List (Int × Int)) : Prop := ∃ ts : List Addr, H a = some (.lst (ts.map V.ref)) ∧ TsAt H ts ps
theorem TsAt.keep {H H' : Hp} (k : ∀ a xs, H a = some (.tup xs) → H' a = some (.tup xs)) : ∀ {ts : List Addr} {ps : List (Int × Int)}, TsAt H ts ps → TsAt H' ts ps
  | _, _, .nil => .nil
  | _, _, .cons h t => .cons (k _ _ h) (TsAt.keep k t)
theorem map_erase {A B : Type} (f : A → B) : ∀ (l : List A) (j : Nat), (l.map f).eraseIdx j = (l.eraseIdx j).map f
  | [], _ => rfl
  | _ :: _, 0 => rfl
  | a :: l, j + 1 => congrArg (f a :: ·) (map_erase f l j)
theorem TsAt.len {H : Hp} {ts : List Addr} {ps : List (Int × Int)} (h : TsAt H ts ps) : ts.length = ps.length := Paired.length h
theorem TsAt.append {H : Hp} : ∀ {ts us : List Addr} {ps qs : List (Int × Int)}, TsAt H ts ps → TsAt H us qs → TsAt H (ts ++ us) (ps ++ qs)
  | _, _, _, _, .nil, h => h
  | _, _, _, _, .cons a t, h => .cons a (TsAt.append t h)
theorem TsAt.erase {H : Hp} : ∀ {ts : List Addr} {ps : List (Int × Int)} (j : Nat), TsAt H ts ps → TsAt H (ts.eraseIdx j) (ps.eraseIdx j)
  | _, _, _, .nil => .nil
  | _, _, 0, .cons _ t => t
  | _, _, j + 1, .cons a t => .cons a (TsAt.erase j t)
theorem TsAt.hd {H : Hp} : ∀ {ts : List Addr} {ps : List (Int × Int)}, TsAt H ts ps → Paired (fun v x => Hd H v x) (ts.map V.ref) ps
  | _, _, .nil => .nil
  | _, _, .cons (b := p) h t => .cons (hd_pair (x := p.1) (y := p.2) h (hd_int _) (hd_int _)) (TsAt.hd t)
theorem On.tup {F : Addr → Prop} {H H' : Hp} (k : On F H H') {a : Addr} {xs : List V} (h : H a = some (.tup xs)) : H' a = some (.tup xs) := k a _ h (.inr ⟨xs, rfl⟩)
theorem PL.keep {F : Addr → Prop} {H H' : Hp} {a : Addr} {ps : List (Int × Int)} (h : PL H a ps) (k : On F H H') (f : F a) : PL H' a ps := by
  obtain ⟨ts, h1, h2⟩ := h
  exact ⟨ts, k a _ h1 (.inl f), h2.keep fun _ _ q => k.tup q⟩
theorem TsAt.on {F : Addr → Prop} {H H' : Hp} {ts : List Addr} {ps : List (Int × Int)} (h : TsAt H ts ps) (k : On F H H') : TsAt H' ts ps := h.keep fun _ _ q => k.tup q
/-! ### wheels -/
def pairK (k : Int × Int) : List Key := [Sum.inl k.1, Sum.inl k.2]
theorem pairK_inj {k j : Int × Int} (h : pairK k = pairK j) : k = j := by
  unfold pairK at h
  injection h with h1 h2
  injection h2 with h2 _
  exact Prod.ext (Sum.inl.inj h1) (Sum.inl.inj h2)
theorem pairK_map (k : Int × Int) : (pairK k).map kV = [V.int k.1, V.int k.2] := rfl
def spans (S : Int) (n : Nat) : List V := (List.range n).map fun l => V.int (S ^ l)
theorem spans_get {S : Int} {n l : Nat} (h : l < n) : (spans S n)[l]? = some (V.int (S ^ l)) := by
  unfold spans
  rw [List.getElem?_map, List.getElem?_range h]
  rfl
theorem spans_len {S : Int} {n : Nat} : (spans S n).length = n := by simp [spans]
theorem spans_succ {S : Int} {n : Nat} : spans S (n + 1) = spans S n ++ [V.int (S ^ n)] := by
  unfold spans
  rw [List.range_succ, List.map_append]
  rfl
theorem spans_one {S : Int} : spans S 1 = [V.int 1] := by simp [spans]
def wf (S : Int) (L : Nat) (sp rw fr : Addr) : List (Str × V) := [("slots", .int S), ("levels", .int L), ("spans", .ref sp), ("rows", .ref rw), ("far", .ref fr)]
theorem wf_slots {S : Int} {L : Nat} {sp rw fr : Addr} : (wf S L sp rw fr).lookup ("slots" : Str) = some (.int S) := rfl
theorem wf_levels {S : Int} {L : Nat} {sp rw fr : Addr} : (wf S L sp rw fr).lookup ("levels" : Str) = some (.int L) := rfl
theorem wf_spans {S : Int} {L : Nat} {sp rw fr : Addr} : (wf S L sp rw fr).lookup ("spans" : Str) = some (.ref sp) := rfl
theorem wf_rows {S : Int} {L : Nat} {sp rw fr : Addr} : (wf S L sp rw fr).lookup ("rows" : Str) = some (.ref rw) := rfl
theorem wf_far {S : Int} {L : Nat} {sp rw fr : Addr} : (wf S L sp rw fr).lookup ("far" : Str) = some (.ref fr) := rfl
theorem wf_put {S : Int} {L : Nat} {sp rw fr p : Addr} : putF "far" (V.ref p) (wf S L sp rw fr) = wf S L sp rw p := rfl
structure WA where
  x : Addr
  dx : Addr
  sp : Addr
  rw : Addr
  fr : Addr
  ad : Int × Int → Addr
  kvs : List (List Key × V)
structure WAt (C : Addr) (H : Hp) (F : Addr → Prop) (A : WA) (S : Int) (L : Nat) (R : Int × Int → List (Int × Int)) (far : List (Int × Int)) : Prop where
  ob : H A.x = some (.ins C A.dx (wf S L A.sp A.rw A.fr))
  sp : H A.sp = some (.lst (spans S (L + 1)))
  rw : H A.rw = some (.dT A.kvs)
  fr : PL H A.fr far
  nsf : A.sp ≠ A.fr
  nd : (A.kvs.map (·.1)).Nodup
  ks : ∀ e ∈ A.kvs, ∃ k : Int × Int, e.1 = pairK k ∧ 0 ≤ k.1 ∧ k.1 < L ∧ 0 ≤ k.2 ∧ k.2 < S
  no : ∀ k, R k = [] → valV A.kvs (pairK k) = none
  yes : ∀ k, R k ≠ [] → valV A.kvs (pairK k) = some (.ref (A.ad k)) ∧ PL H (A.ad k) (R k) ∧ F (A.ad k) ∧ A.ad k ≠ A.sp ∧ A.ad k ≠ A.fr
  inj : ∀ k j, R k ≠ [] → R j ≠ [] → A.ad k = A.ad j → k = j
  fx : F A.x
  fsp : F A.sp
  frw : F A.rw
  ffr : F A.fr
  own : ∀ a, F a → Mut (H a)
section
variable {C : Addr} {H H' : Hp} {F F' : Addr → Prop} {A : WA} {S : Int} {L : Nat} {R : Int × Int → List (Int × Int)} {far : List (Int × Int)}
theorem WAt.keep (w : WAt C H F A S L R far) (k : On F H H') : WAt C H' F A S L R far where
  ob := k _ _ w.ob (.inl w.fx)
  sp := k _ _ w.sp (.inl w.fsp)
  rw := k _ _ w.rw (.inl w.frw)
  fr := w.fr.keep k w.ffr
  nsf := w.nsf
  nd := w.nd
  ks := w.ks
  no := w.no
  yes := fun j h => let ⟨a, b, c, d, e⟩ := w.yes j h; ⟨a, b.keep k c, c, d, e⟩
  inj := w.inj
  fx := w.fx
  fsp := w.fsp
  frw := w.frw
  ffr := w.ffr
  own := fun a h => by
    have m := w.own a h
    obtain ⟨o, q⟩ := mut_some m
    rw [k a o q (.inl h), ← q]
    exact m
theorem WAt.tup (w : WAt C H F A S L R far) {a : Addr} {xs : List V} (h : H a = some (.tup xs)) : ¬ F a := fun f => by
  have := w.own a f
  rw [h] at this
  exact this
/-- how many slots have something -/
theorem WAt.few (w : WAt C H F A S L R far) (hL : L ≤ 6) (hS : S ≤ 64) : A.kvs.length ≤ 384 := by
  have e : (A.kvs.map (·.1)).length ≤ (((List.range 6).flatMap fun (a : Nat) => (List.range 64).map fun (b : Nat) => pairK ((a : Int), (b : Int)))).length := by
    refine nodup_sub _ _ w.nd fun y hy => ?_
    obtain ⟨p, hp, rfl⟩ := List.mem_map.mp hy
    obtain ⟨k, e, h1, h2, h3, h4⟩ := w.ks p hp
    rw [e, List.mem_flatMap]
    refine ⟨k.1.toNat, by rw [List.mem_range]; omega, ?_⟩
    rw [List.mem_map]
    refine ⟨k.2.toNat, by rw [List.mem_range]; omega, ?_⟩
    rw [Int.toNat_of_nonneg h1, Int.toNat_of_nonneg h3]
  rw [List.length_map] at e
  exact Nat.le_trans e (by decide +kernel)
theorem few_room {n : Nat} (h : n ≤ 384) : n < sizeLine := Nat.lt_of_le_of_lt h (by decide)
/-- a step that writes nothing of ours -/
theorem WAt.same (w : WAt C H F A S L R far) (k : Same H H') : WAt C H' F A S L R far := w.keep (On.same k)
/-- a pair is laid at the end of a slot that has some -/
theorem WAt.rowOld (w : WAt C H F A S L R far) {k p : Int × Int} {ts : List Addr} {q : Addr} (hk : R k ≠ []) (h1 : H (A.ad k) = some (.lst (ts.map V.ref))) (h2 : TsAt H ts (R k)) (hq : H q = some (.tup [.int p.1, .int p.2])) :
    WAt C (upd H (A.ad k) (.lst ((ts ++ [q]).map V.ref))) F A S L (put1 R k (R k ++ [p])) far := by
  obtain ⟨y1, y2, y3, y4, y5⟩ := w.yes k hk
  have nq : q ≠ A.ad k := fun z => w.tup hq (z ▸ y3)
  have on : ∀ a o, a ≠ A.ad k → H a = some o → (upd H (A.ad k) (.lst ((ts ++ [q]).map V.ref))) a = some o := fun a o h e => by rw [upd_ne h]; exact e
  have tk : ∀ a xs, H a = some (.tup xs) → (upd H (A.ad k) (.lst ((ts ++ [q]).map V.ref))) a = some (.tup xs) := fun a xs e => on a _ (fun z => w.tup e (z ▸ y3)) e
  have ne : ∀ j, put1 R k (R k ++ [p]) j ≠ [] → R j ≠ [] := fun j h => by
    by_cases e : j = k
    · rw [e]
      exact hk
    · rw [put1_ne e] at h
      exact h
  refine ⟨on _ _ (ne_of w.ob h1 (by intro z; cases z)) w.ob, on _ _ (Ne.symm y4) w.sp, on _ _ (ne_of w.rw h1 (by intro z; cases z)) w.rw, ?_, w.nsf, w.nd, w.ks, fun j h => ?_, fun j h => ?_, fun j i a b => w.inj j i (ne j a) (ne i b), w.fx, w.fsp, w.frw, w.ffr, fun a f => ?_⟩
  · obtain ⟨us, u1, u2⟩ := w.fr
    exact ⟨us, on _ _ (Ne.symm y5) u1, u2.keep tk⟩
  · by_cases e : j = k
    · rw [e, put1_same] at h
      exact absurd h (by simp)
    · rw [put1_ne e] at h
      exact w.no j h
  · by_cases e : j = k
    · subst e
      rw [put1_same]
      exact ⟨y1, ⟨ts ++ [q], upd_same, (h2.keep tk).append (.cons (tk _ _ hq) .nil)⟩, y3, y4, y5⟩
    · obtain ⟨z1, ⟨us, u1, u2⟩, z3, z4, z5⟩ := w.yes j (ne j h)
      rw [put1_ne e] at h ⊢
      exact ⟨z1, ⟨us, on _ _ (fun z => e (w.inj j k h hk z)) u1, u2.keep tk⟩, z3, z4, z5⟩
  · by_cases e : a = A.ad k
    · rw [e, upd_same]
      trivial
    · rw [upd_ne e]
      exact w.own a f
/-- a new slot's list, with one pair -/
theorem WAt.rowNew (w : WAt C H F A S L R far) {k p : Int × Int} {b q : Addr} (hk : R k = []) (hin : 0 ≤ k.1 ∧ k.1 < L ∧ 0 ≤ k.2 ∧ k.2 < S) (hb : H b = none) (e1 : H' A.rw = some (.dT (putK A.kvs (pairK k) (.ref b)))) (e2 : H' b = some (.lst [.ref q]))
    (e3 : H' q = some (.tup [.int p.1, .int p.2])) (on : ∀ a o, a ≠ A.rw → H a = some o → H' a = some o) :
    WAt C H' (fun a => F a ∨ a = b) { A with ad := fun j => if j = k then b else A.ad j, kvs := putK A.kvs (pairK k) (.ref b) } S L (put1 R k (R k ++ [p])) far := by
  have tk : ∀ a xs, H a = some (.tup xs) → H' a = some (.tup xs) := fun a xs e => on a _ (ne_of e w.rw (by intro z; cases z)) e
  have nv := w.no k hk
  have vp : ∀ j, valV (putK A.kvs (pairK k) (.ref b)) (pairK j) = if j = k then some (.ref b) else valV A.kvs (pairK j) := fun j => by
    rw [valV_put]
    by_cases e : j = k
    · rw [if_pos e, if_pos (by rw [e])]
    · rw [if_neg e, if_neg (fun z => e (pairK_inj z))]
  refine ⟨on _ _ (ne_of w.ob w.rw (by intro z; cases z)) w.ob, on _ _ (ne_of w.sp w.rw (by intro z; cases z)) w.sp, e1, ?_, w.nsf, nd_putK _ w.nd nv, fun e he => ?_, fun j h => ?_, fun j h => ?_, fun j i a c e => ?_, .inl w.fx, .inl w.fsp, .inl w.frw, .inl w.ffr, fun a f => ?_⟩
  · obtain ⟨us, u1, u2⟩ := w.fr
    exact ⟨us, on _ _ (ne_of u1 w.rw (by intro z; cases z)) u1, u2.keep tk⟩
  · have he' : e ∈ putK A.kvs (pairK k) (.ref b) := he
    rw [putK_new _ nv, List.mem_append, List.mem_singleton] at he'
    rcases he' with he' | rfl
    · exact w.ks e he'
    · exact ⟨k, rfl, hin⟩
  · show valV (putK A.kvs (pairK k) (.ref b)) (pairK j) = none
    rw [vp]
    by_cases e : j = k
    · rw [e, put1_same] at h
      exact absurd h (by simp)
    · rw [put1_ne e] at h
      rw [if_neg e]
      exact w.no j h
  · show valV (putK A.kvs (pairK k) (.ref b)) (pairK j) = some (.ref (if j = k then b else A.ad j)) ∧ PL H' (if j = k then b else A.ad j) _ ∧ _ ∧ _ ∧ _
    rw [vp]
    by_cases e : j = k
    · subst e
      rw [if_pos rfl, if_pos rfl, put1_same, hk]
      refine ⟨rfl, ⟨[q], e2, .cons e3 .nil⟩, .inr (if_pos rfl), ?_, ?_⟩
      · show (if j = j then b else A.ad j) ≠ A.sp
        rw [if_pos rfl]
        exact (ne_of_none w.sp hb).symm
      · show (if j = j then b else A.ad j) ≠ A.fr
        rw [if_pos rfl]
        obtain ⟨us, u1, _⟩ := w.fr
        exact (ne_of_none u1 hb).symm
    · rw [put1_ne e] at h ⊢
      obtain ⟨z1, ⟨us, u1, u2⟩, z3, z4, z5⟩ := w.yes j h
      rw [if_neg e, if_neg e]
      refine ⟨z1, ⟨us, on _ _ (ne_of u1 w.rw (by intro z; cases z)) u1, u2.keep tk⟩, .inl (by show F (if j = k then b else A.ad j); rw [if_neg e]; exact z3), ?_, ?_⟩
      · show (if j = k then b else A.ad j) ≠ A.sp
        rw [if_neg e]
        exact z4
      · show (if j = k then b else A.ad j) ≠ A.fr
        rw [if_neg e]
        exact z5
  · have e' : (if j = k then b else A.ad j) = (if i = k then b else A.ad i) := e
    by_cases ej : j = k
    · by_cases ei : i = k
      · rw [ej, ei]
      · rw [if_pos ej, if_neg ei] at e'
        rw [put1_ne ei] at c
        obtain ⟨_, ⟨us, u1, _⟩, _⟩ := w.yes i c
        rw [← e', hb] at u1
        cases u1
    · rw [put1_ne ej] at a
      by_cases ei : i = k
      · rw [if_neg ej, if_pos ei] at e'
        obtain ⟨_, ⟨us, u1, _⟩, _⟩ := w.yes j a
        rw [e', hb] at u1
        cases u1
      · rw [put1_ne ei] at c
        rw [if_neg ej, if_neg ei] at e'
        exact w.inj j i a c e'
  · rcases f with f | rfl
    · by_cases e : a = A.rw
      · rw [e, e1]
        trivial
      · have m := w.own a f
        obtain ⟨o, ho⟩ := mut_some m
        rw [on a o e ho, ← ho]
        exact m
    · rw [e2]
      trivial
/-- a pair is laid in none -/
theorem WAt.farPut (w : WAt C H F A S L R far) {p : Int × Int} {ts : List Addr} {q : Addr} (h1 : H A.fr = some (.lst (ts.map V.ref))) (h2 : TsAt H ts far) (hq : H q = some (.tup [.int p.1, .int p.2])) :
    WAt C (upd H A.fr (.lst ((ts ++ [q]).map V.ref))) F A S L R (far ++ [p]) := by
  have on : ∀ a o, a ≠ A.fr → H a = some o → (upd H A.fr (.lst ((ts ++ [q]).map V.ref))) a = some o := fun a o h e => by rw [upd_ne h]; exact e
  have tk : ∀ a xs, H a = some (.tup xs) → (upd H A.fr (.lst ((ts ++ [q]).map V.ref))) a = some (.tup xs) := fun a xs e => on a _ (fun z => w.tup e (z ▸ w.ffr)) e
  refine ⟨on _ _ (ne_of w.ob h1 (by intro z; cases z)) w.ob, on _ _ w.nsf w.sp, on _ _ (ne_of w.rw h1 (by intro z; cases z)) w.rw, ⟨ts ++ [q], upd_same, (h2.keep tk).append (.cons (tk _ _ hq) .nil)⟩, w.nsf, w.nd, w.ks, w.no, fun j h => ?_, w.inj, w.fx, w.fsp, w.frw, w.ffr, fun a f => ?_⟩
  · obtain ⟨z1, ⟨us, u1, u2⟩, z3, z4, z5⟩ := w.yes j h
    exact ⟨z1, ⟨us, on _ _ z5 u1, u2.keep tk⟩, z3, z4, z5⟩
  · by_cases e : a = A.fr
    · rw [e, upd_same]
      trivial
    · rw [upd_ne e]
      exact w.own a f
/-- a pair is taken out of none -/
theorem WAt.farDrop (w : WAt C H F A S L R far) {j : Nat} {ts : List Addr} (h1 : H A.fr = some (.lst (ts.map V.ref))) (h2 : TsAt H ts far) :
    WAt C (upd H A.fr (.lst ((ts.map V.ref).eraseIdx j))) F A S L R (far.eraseIdx j) := by
  have on : ∀ a o, a ≠ A.fr → H a = some o → (upd H A.fr (.lst ((ts.map V.ref).eraseIdx j))) a = some o := fun a o h e => by rw [upd_ne h]; exact e
  have tk : ∀ a xs, H a = some (.tup xs) → (upd H A.fr (.lst ((ts.map V.ref).eraseIdx j))) a = some (.tup xs) := fun a xs e => on a _ (fun z => w.tup e (z ▸ w.ffr)) e
  refine ⟨on _ _ (ne_of w.ob h1 (by intro z; cases z)) w.ob, on _ _ w.nsf w.sp, on _ _ (ne_of w.rw h1 (by intro z; cases z)) w.rw, ⟨ts.eraseIdx j, by rw [upd_same, map_erase], (h2.keep tk).erase j⟩, w.nsf, w.nd, w.ks, w.no, fun i h => ?_, w.inj, w.fx, w.fsp, w.frw, w.ffr, fun a f => ?_⟩
  · obtain ⟨z1, ⟨us, u1, u2⟩, z3, z4, z5⟩ := w.yes i h
    exact ⟨z1, ⟨us, on _ _ z5 u1, u2.keep tk⟩, z3, z4, z5⟩
  · by_cases e : a = A.fr
    · rw [e, upd_same]
      trivial
    · rw [upd_ne e]
      exact w.own a f
/-- a pair is taken out of a slot that keeps some -/
theorem WAt.rowDrop (w : WAt C H F A S L R far) {k : Int × Int} {j : Nat} {ts : List Addr} (hk : (R k).eraseIdx j ≠ []) (h1 : H (A.ad k) = some (.lst (ts.map V.ref))) (h2 : TsAt H ts (R k)) :
    WAt C (upd H (A.ad k) (.lst ((ts.map V.ref).eraseIdx j))) F A S L (put1 R k ((R k).eraseIdx j)) far := by
  have hk0 : R k ≠ [] := fun z => by rw [z] at hk; exact hk rfl
  obtain ⟨y1, y2, y3, y4, y5⟩ := w.yes k hk0
  have on : ∀ a o, a ≠ A.ad k → H a = some o → (upd H (A.ad k) (.lst ((ts.map V.ref).eraseIdx j))) a = some o := fun a o h e => by rw [upd_ne h]; exact e
  have tk : ∀ a xs, H a = some (.tup xs) → (upd H (A.ad k) (.lst ((ts.map V.ref).eraseIdx j))) a = some (.tup xs) := fun a xs e => on a _ (fun z => w.tup e (z ▸ y3)) e
  have ne : ∀ i, put1 R k ((R k).eraseIdx j) i ≠ [] → R i ≠ [] := fun i h => by
    by_cases e : i = k
    · rw [e]
      exact hk0
    · rw [put1_ne e] at h
      exact h
  refine ⟨on _ _ (ne_of w.ob h1 (by intro z; cases z)) w.ob, on _ _ (Ne.symm y4) w.sp, on _ _ (ne_of w.rw h1 (by intro z; cases z)) w.rw, ?_, w.nsf, w.nd, w.ks, fun i h => ?_, fun i h => ?_, fun i l a b => w.inj i l (ne i a) (ne l b), w.fx, w.fsp, w.frw, w.ffr, fun a f => ?_⟩
  · obtain ⟨us, u1, u2⟩ := w.fr
    exact ⟨us, on _ _ (Ne.symm y5) u1, u2.keep tk⟩
  · by_cases e : i = k
    · rw [e, put1_same] at h
      exact absurd h hk
    · rw [put1_ne e] at h
      exact w.no i h
  · by_cases e : i = k
    · subst e
      rw [put1_same]
      exact ⟨y1, ⟨ts.eraseIdx j, by rw [upd_same, map_erase], (h2.keep tk).erase j⟩, y3, y4, y5⟩
    · obtain ⟨z1, ⟨us, u1, u2⟩, z3, z4, z5⟩ := w.yes i (ne i h)
      rw [put1_ne e] at h ⊢
      exact ⟨z1, ⟨us, on _ _ (fun z => e (w.inj i k h hk0 z)) u1, u2.keep tk⟩, z3, z4, z5⟩
  · by_cases e : a = A.ad k
    · rw [e, upd_same]
      trivial
    · rw [upd_ne e]
      exact w.own a f
/-- a slot's list is taken out of the rows (what the list held does not matter) -/
theorem WAt.rowOut (w : WAt C H F A S L R far) {k : Int × Int} (hk : R k ≠ []) (e1 : H' A.rw = some (.dT (dropK A.kvs (pairK k)))) (on : ∀ a o, a ≠ A.rw → a ≠ A.ad k → H a = some o → H' a = some o) (mu : Mut (H' (A.ad k))) :
    WAt C H' F { A with kvs := dropK A.kvs (pairK k) } S L (put1 R k []) far := by
  obtain ⟨y1, ⟨vs, v1, v2⟩, y3, y4, y5⟩ := w.yes k hk
  have tk : ∀ a xs, H a = some (.tup xs) → H' a = some (.tup xs) := fun a xs e => on a _ (ne_of e w.rw (by intro z; cases z)) (ne_of e v1 (by intro z; cases z)) e
  have vp : ∀ j, valV (dropK A.kvs (pairK k)) (pairK j) = if j = k then none else valV A.kvs (pairK j) := fun j => by
    rw [valV_drop]
    by_cases e : j = k
    · rw [if_pos e, if_pos (by rw [e])]
    · rw [if_neg e, if_neg (fun z => e (pairK_inj z))]
  have ne : ∀ j, put1 R k [] j ≠ [] → j ≠ k ∧ R j ≠ [] := fun j h => by
    by_cases e : j = k
    · rw [e, put1_same] at h
      exact absurd rfl h
    · rw [put1_ne e] at h
      exact ⟨e, h⟩
  refine ⟨on _ _ (ne_of w.ob w.rw (by intro z; cases z)) (ne_of w.ob v1 (by intro z; cases z)) w.ob, on _ _ (ne_of w.sp w.rw (by intro z; cases z)) (Ne.symm y4) w.sp, e1, ?_, w.nsf, nd_dropK w.nd, fun e he => w.ks e (dropK_mem he), fun j h => ?_, fun j h => ?_, fun j i a c => w.inj j i (ne j a).2 (ne i c).2, w.fx, w.fsp, w.frw, w.ffr, fun a f => ?_⟩
  · obtain ⟨us, u1, u2⟩ := w.fr
    exact ⟨us, on _ _ (ne_of u1 w.rw (by intro z; cases z)) (Ne.symm y5) u1, u2.keep tk⟩
  · show valV (dropK A.kvs (pairK k)) (pairK j) = none
    rw [vp]
    by_cases e : j = k
    · rw [if_pos e]
    · rw [put1_ne e] at h
      rw [if_neg e]
      exact w.no j h
  · obtain ⟨e, h'⟩ := ne j h
    obtain ⟨z1, ⟨us, u1, u2⟩, z3, z4, z5⟩ := w.yes j h'
    rw [put1_ne e]
    refine ⟨?_, ⟨us, on _ _ (ne_of u1 w.rw (by intro z; cases z)) (fun z => e (w.inj j k h' hk z)) u1, u2.keep tk⟩, z3, z4, z5⟩
    show valV (dropK A.kvs (pairK k)) (pairK j) = _
    rw [vp, if_neg e]
    exact z1
  · by_cases e : a = A.rw
    · rw [e, e1]
      trivial
    · by_cases e2 : a = A.ad k
      · rw [e2]
        exact mu
      · have m := w.own a f
        obtain ⟨o, ho⟩ := mut_some m
        rw [on a o e e2 ho, ← ho]
        exact m
/-- a new empty list for none; the old one is let go -/
theorem WAt.farNew (w : WAt C H F A S L R far) {b : Addr} (hb : H b = none) (hx : A.x ≠ b) :
    WAt C (upd (upd H b (.lst [])) A.x (.ins C A.dx (wf S L A.sp A.rw b))) (fun a => (F a ∧ a ≠ A.fr) ∨ a = b) { A with fr := b } S L R [] := by
  obtain ⟨fs, f1, _⟩ := w.fr
  have on : ∀ a o, a ≠ A.x → H a = some o → (upd (upd H b (.lst [])) A.x (.ins C A.dx (wf S L A.sp A.rw b))) a = some o := fun a o h e => by
    rw [upd_ne h, upd_ne (ne_of_none e hb)]
    exact e
  have tk : ∀ a xs, H a = some (.tup xs) → (upd (upd H b (.lst [])) A.x (.ins C A.dx (wf S L A.sp A.rw b))) a = some (.tup xs) := fun a xs e => on a _ (ne_of e w.ob (by intro z; cases z)) e
  refine ⟨upd_same, on _ _ (ne_of w.sp w.ob (by intro z; cases z)) w.sp, on _ _ (ne_of w.rw w.ob (by intro z; cases z)) w.rw, ⟨[], by rw [upd_ne (Ne.symm hx), upd_same]; rfl, .nil⟩, ne_of_none w.sp hb, w.nd, w.ks, w.no, fun j h => ?_, w.inj, .inl ⟨w.fx, ne_of w.ob f1 (by intro z; cases z)⟩, .inl ⟨w.fsp, w.nsf⟩, .inl ⟨w.frw, ne_of w.rw f1 (by intro z; cases z)⟩, .inr rfl, fun a f => ?_⟩
  · obtain ⟨z1, ⟨us, u1, u2⟩, z3, z4, z5⟩ := w.yes j h
    exact ⟨z1, ⟨us, on _ _ (ne_of u1 w.ob (by intro z; cases z)) u1, u2.keep tk⟩, .inl ⟨z3, z5⟩, z4, ne_of_none u1 hb⟩
  · by_cases e : a = A.x
    · rw [e, upd_same]
      trivial
    · rcases f with ⟨f, _⟩ | rfl
      · have m := w.own a f
        obtain ⟨o, ho⟩ := mut_some m
        rw [on a o e ho, ← ho]
        exact m
      · rw [upd_ne e, upd_same]
        trivial
end
end L2.TK
set_option Elab.async false
set_option linter.all false
set_option maxRecDepth 100000
set_option maxHeartbeats 1000000
/-! What a book looks like in the heap. -/
namespace L2.TK
open PySem PySem.Spec TkM
def optI : Option Int → V
  | none => .non
  | some i => .int i
def bf (wh : Addr) (now many : Int) (al : Addr) : List (Str × V) := [("wheels", .ref wh), ("now", .int now), ("many", .int many), ("alarms", .ref al)]
def af (name : Str) (wn : Int) (st rs : V) : List (Str × V) := [("name", .str name), ("when", .int wn), ("step", st), ("rest", rs)]
section
variable {wh al : Addr} {now many x : Int} {name : Str} {wn : Int} {st rs y : V}
theorem bf_wheels : (bf wh now many al).lookup ("wheels" : Str) = some (.ref wh) := rfl
theorem bf_now : (bf wh now many al).lookup ("now" : Str) = some (.int now) := rfl
theorem bf_many : (bf wh now many al).lookup ("many" : Str) = some (.int many) := rfl
theorem bf_alarms : (bf wh now many al).lookup ("alarms" : Str) = some (.ref al) := rfl
theorem bf_putNow : putF "now" (V.int x) (bf wh now many al) = bf wh x many al := rfl
theorem bf_putMany : putF "many" (V.int x) (bf wh now many al) = bf wh now x al := rfl
theorem af_name : (af name wn st rs).lookup ("name" : Str) = some (.str name) := rfl
theorem af_when : (af name wn st rs).lookup ("when" : Str) = some (.int wn) := rfl
theorem af_step : (af name wn st rs).lookup ("step" : Str) = some st := rfl
theorem af_rest : (af name wn st rs).lookup ("rest" : Str) = some rs := rfl
theorem af_putWhen : putF "when" (V.int x) (af name wn st rs) = af name x st rs := rfl
theorem af_putRest : putF "rest" y (af name wn st rs) = af name wn st y := rfl
end
def fst1 : HO → Str
  | .ins _ _ (p :: _) => p.1
  | _ => ""
theorem ins_ab {CA CB dx dx' wh al : Addr} {now many wn : Int} {name : Str} {st rs : V} : HO.ins CA dx (af name wn st rs) ≠ HO.ins CB dx' (bf wh now many al) := fun z => by
  have e : ("name" : Str) = "wheels" := congrArg fst1 z
  revert e
  decide +kernel
theorem ins_aw {CA CW dx dx' sp rw fr : Addr} {wn S : Int} {L : Nat} {name : Str} {st rs : V} : HO.ins CA dx (af name wn st rs) ≠ HO.ins CW dx' (wf S L sp rw fr) := fun z => by
  have e : ("name" : Str) = "slots" := congrArg fst1 z
  revert e
  decide +kernel
/-- an alarm stands at p -/
def AlAt (CA : Addr) (H : Hp) (p : Addr) (a : Al Str) : Prop := ∃ dx wn, H p = some (.ins CA dx (af a.name wn (optI a.step) (if a.rests = true then .int a.val else .non))) ∧ (a.rests = false → wn = a.val)
theorem AlAt.some {CA : Addr} {H : Hp} {p : Addr} {a : Al Str} (h : AlAt CA H p a) : ∃ dx fs, H p = .some (.ins CA dx fs) := by
  obtain ⟨dx, wn, e, _⟩ := h
  exact ⟨dx, _, e⟩
structure BA where
  x : Addr
  dx : Addr
  al : Addr
  aa : Int → Addr
  kvs : List (Key × V)
  wa : WA
  fw : Addr → Prop
/-- a book at A.x: its field now; the tick tn at which its wheels stand; its alarms m; the pairs Wp that lie in its wheels -/
structure BAt (CW CA CB : Addr) (H : Hp) (F : Addr → Prop) (A : BA) (S : Int) (L : Nat) (now tn many : Int) (m : Mp Str) (Wp : Int × Int → Prop) : Prop where
  ob : H A.x = some (.ins CB A.dx (bf A.wa.x now many A.al))
  al : H A.al = some (.dK A.kvs)
  nd : (A.kvs.map (·.1)).Nodup
  ks : ∀ e ∈ A.kvs, ∃ n : Int, e.1 = Sum.inl n ∧ 0 ≤ n ∧ n < 1000
  no : ∀ n, m n = none → valV A.kvs (Sum.inl n) = none
  yes : ∀ n a, m n = some a → valV A.kvs (Sum.inl n) = some (.ref (A.aa n)) ∧ AlAt CA H (A.aa n) a ∧ F (A.aa n) ∧ ¬ A.fw (A.aa n) ∧ 0 ≤ n ∧ n < 1000
  inj : ∀ n j a b, m n = some a → m j = some b → A.aa n = A.aa j → n = j
  stp : Stp m
  fx : F A.x
  fal : F A.al
  nx : ¬ A.fw A.x
  nal : ¬ A.fw A.al
  sub : ∀ a, A.fw a → F a
  own : ∀ a, F a → Mut (H a)
  wh : ∃ R far, WAt CW H A.fw A.wa S L R far ∧ Good S L tn R far Wp
  ws : 2 ≤ S ∧ S ≤ 64 ∧ 1 ≤ L ∧ L ≤ 6
section
variable {CW CA CB : Addr} {H H' : Hp} {F F' : Addr → Prop} {A : BA} {S : Int} {L : Nat} {now tn many : Int} {m : Mp Str} {Wp : Int × Int → Prop}
theorem BAt.keep (b : BAt CW CA CB H F A S L now tn many m Wp) (k : On F H H') : BAt CW CA CB H' F A S L now tn many m Wp where
  ob := k _ _ b.ob (.inl b.fx)
  al := k _ _ b.al (.inl b.fal)
  nd := b.nd
  ks := b.ks
  no := b.no
  yes := fun n a h => let ⟨y1, ⟨dx, wn, y2, y3⟩, y4, y5⟩ := b.yes n a h; ⟨y1, ⟨dx, wn, k _ _ y2 (.inl y4), y3⟩, y4, y5⟩
  inj := b.inj
  stp := b.stp
  fx := b.fx
  fal := b.fal
  nx := b.nx
  nal := b.nal
  sub := b.sub
  own := fun a h => by
    have m := b.own a h
    obtain ⟨o, q⟩ := mut_some m
    rw [k a o q (.inl h), ← q]
    exact m
  wh := let ⟨R, far, w, g⟩ := b.wh; ⟨R, far, w.keep (k.mono b.sub), g⟩
  ws := b.ws
theorem BAt.same (b : BAt CW CA CB H F A S L now tn many m Wp) (k : Same H H') : BAt CW CA CB H' F A S L now tn many m Wp := b.keep (On.same k)
theorem BAt.congr (b : BAt CW CA CB H F A S L now tn many m Wp) {Wp' : Int × Int → Prop} (h : ∀ p, Wp' p ↔ Wp p) : BAt CW CA CB H F A S L now tn many m Wp' :=
  { b with wh := let ⟨R, far, w, g⟩ := b.wh; ⟨R, far, w, g.congr h⟩ }
theorem BAt.tup (b : BAt CW CA CB H F A S L now tn many m Wp) {a : Addr} {xs : List V} (h : H a = some (.tup xs)) : ¬ F a := fun f => by
  have := b.own a f
  rw [h] at this
  exact this
theorem BAt.bound (b : BAt CW CA CB H F A S L now tn many m Wp) {n : Int} {a : Al Str} (h : m n = some a) : 0 ≤ n ∧ n < 1000 := (b.yes n a h).2.2.2.2
theorem few_of {m : Mp Str} {many : Int} (h : ∀ n a, m n = some a → 0 ≤ n ∧ n < many) (hm : many ≤ 1000) : Few (Wt m) := fun l nd hl => by
  have e : (l.map (·.2)).length ≤ ((List.range 1000).map fun (n : Nat) => (n : Int)).length := by
    refine nodup_sub _ _ ?_ fun y hy => ?_
    · have inj : ∀ p q, p ∈ l → q ∈ l → p.2 = q.2 → p = q := fun p q hp hq e => by
        obtain ⟨a, a1, _, a3⟩ := hl p hp
        obtain ⟨c, c1, _, c3⟩ := hl q hq
        rw [e, c1] at a1
        cases a1
        exact Prod.ext (a3.symm.trans c3) e
      clear hl
      induction l with
      | nil => exact List.nodup_nil
      | cons p l ih =>
        obtain ⟨n1, n2⟩ := List.nodup_cons.mp nd
        rw [List.map_cons, List.nodup_cons]
        refine ⟨fun z => ?_, ih n2 fun p q hp hq => inj p q (List.mem_cons_of_mem _ hp) (List.mem_cons_of_mem _ hq)⟩
        obtain ⟨q, hq, e⟩ := List.mem_map.mp z
        rw [inj q p (List.mem_cons_of_mem _ hq) List.mem_cons_self e] at hq
        exact n1 hq
    · obtain ⟨p, hp, rfl⟩ := List.mem_map.mp hy
      obtain ⟨a, a1, _⟩ := hl p hp
      have := h _ _ a1
      rw [List.mem_map]
      exact ⟨p.2.toNat, by rw [List.mem_range]; omega, by omega⟩
  simpa using e
theorem BAt.few (b : BAt CW CA CB H F A S L now tn many m Wp) (hm : many ≤ 1000) : Few (Wt m) := few_of (fun n a h => b.bound h) (Int.le_refl _)
theorem BAt.size (b : BAt CW CA CB H F A S L now tn many m Wp) (hm : many ≤ 1000) : A.kvs.length ≤ 1000 := by
  have e : (A.kvs.map (·.1)).length ≤ ((List.range 1000).map fun (n : Nat) => (Sum.inl (n : Int) : Key)).length := by
    refine nodup_sub _ _ b.nd fun y hy => ?_
    obtain ⟨p, hp, rfl⟩ := List.mem_map.mp hy
    obtain ⟨n, e, h1, h2⟩ := b.ks p hp
    rw [e, List.mem_map]
    exact ⟨n.toNat, by rw [List.mem_range]; omega, by rw [Int.toNat_of_nonneg h1]⟩
  simpa using e
/-- the wheels have changed -/
theorem BAt.wheels (b : BAt CW CA CB H F A S L now tn many m Wp) {A' : WA} {fw' : Addr → Prop} {R' : Int × Int → List (Int × Int)} {far' : List (Int × Int)} {tn' : Int} {Wp' : Int × Int → Prop} (ex : A'.x = A.wa.x) (w : WAt CW H' fw' A' S L R' far') (g : Good S L tn' R' far' Wp') (c : Ch A.fw fw' H H') :
    BAt CW CA CB H' (fun a => (F a ∧ ¬ A.fw a) ∨ fw' a) { A with wa := A', fw := fw' } S L now tn' many m Wp' ∧ Ch F (fun a => (F a ∧ ¬ A.fw a) ∨ fw' a) H H' := by
  have nf : ∀ a o, H a = some o → ¬ A.fw a → ¬ fw' a := fun a o e n z => by
    rcases c.gr a z with z | z
    · exact n z
    · rw [e] at z
      cases z
  refine ⟨⟨?_, c.kp _ _ b.al b.nal, b.nd, b.ks, b.no, fun n a h => ?_, b.inj, b.stp, .inl ⟨b.fx, b.nx⟩, .inl ⟨b.fal, b.nal⟩, nf _ _ b.ob b.nx, nf _ _ b.al b.nal, fun a h => .inr h, fun a h => ?_, ⟨R', far', w, g⟩, b.ws⟩, fun a o e n => c.kp a o e fun z => n (b.sub a z), fun a h => ?_, c.st⟩
  · show H' A.x = some (.ins CB A.dx (bf A'.x now many A.al))
    rw [ex]
    exact c.kp _ _ b.ob b.nx
  · obtain ⟨y1, ⟨dx, wn, y2, y3⟩, y4, y5, y6⟩ := b.yes n a h
    exact ⟨y1, ⟨dx, wn, c.kp _ _ y2 y5, y3⟩, .inl ⟨y4, y5⟩, nf _ _ y2 y5, y6⟩
  · rcases h with ⟨h, z⟩ | h
    · have mm := b.own a h
      obtain ⟨o, q⟩ := mut_some mm
      rw [c.kp a o q z, ← q]
      exact mm
    · exact w.own a h
  · rcases h with ⟨h, _⟩ | h
    · exact .inl h
    · rcases c.gr a h with z | z
      · exact .inl (b.sub a z)
      · exact .inr z
/-- the book's own object is written -/
theorem BAt.setB (b : BAt CW CA CB H F A S L now tn many m Wp) {now' many' : Int} (hm : many ≤ many') :
    BAt CW CA CB (upd H A.x (.ins CB A.dx (bf A.wa.x now' many' A.al))) F A S L now' tn many' m Wp := by
  have on : ∀ a o, a ≠ A.x → H a = some o → upd H A.x (.ins CB A.dx (bf A.wa.x now' many' A.al)) a = some o := fun a o n e => by rw [upd_ne n]; exact e
  obtain ⟨R, far, w, g⟩ := b.wh
  refine ⟨upd_same, on _ _ (ne_of b.al b.ob (by intro z; cases z)) b.al, b.nd, fun e he => ?_, b.no, fun n a h => ?_, b.inj, b.stp, b.fx, b.fal, b.nx, b.nal, b.sub, fun a h => ?_, ⟨R, far, w.keep fun a o e z => on a o ?_ e, g⟩, b.ws⟩
  · obtain ⟨n, h1, h2, h3⟩ := b.ks e he
    exact ⟨n, h1, h2, by omega⟩
  · obtain ⟨y1, ⟨dx, wn, y2, y3⟩, y4, y5, y6, y7⟩ := b.yes n a h
    exact ⟨y1, ⟨dx, wn, on _ _ (ne_of y2 b.ob ins_ab) y2, y3⟩, y4, y5, y6, by omega⟩
  · by_cases e : a = A.x
    · rw [e, upd_same]
      trivial
    · rw [upd_ne e]
      exact b.own a h
  · rintro rfl
    rcases z with z | ⟨xs, rfl⟩
    · exact b.nx z
    · rw [b.ob] at e
      cases e
/-- an alarm is laid into the book's dict -/
theorem BAt.addAl (b : BAt CW CA CB H F A S L now tn many m Wp) {n : Int} {a : Al Str} {p : Addr} {H1 : Hp} (hn : m n = none) (h0 : 0 ≤ n) (h1 : n < 1000) (hp : H p = none) (s : Same H H1) (ha : AlAt CA H1 p a) (hs : ∀ s, a.step = some s → 1 ≤ s) :
    BAt CW CA CB (upd H1 A.al (.dK (putK A.kvs (Sum.inl n) (.ref p)))) (fun c => F c ∨ c = p) { A with aa := fun j => if j = n then p else A.aa j, kvs := putK A.kvs (Sum.inl n) (.ref p) } S L now tn many (setM m n (some a)) Wp ∧
      Ch F (fun c => F c ∨ c = p) H (upd H1 A.al (.dK (putK A.kvs (Sum.inl n) (.ref p)))) := by
  obtain ⟨dp, fp, e1⟩ := ha.some
  have npa : p ≠ A.al := ne_of e1 (s _ _ b.al) (by intro z; cases z)
  have on : ∀ c o, c ≠ A.al → H c = some o → upd H1 A.al (.dK (putK A.kvs (Sum.inl n) (.ref p))) c = some o := fun c o z e => by
    rw [upd_ne z]
    exact s c o e
  have nv := b.no n hn
  obtain ⟨R, far, w, g⟩ := b.wh
  have nfw : ¬ A.fw p := fun z => by
    have := b.own p (b.sub p z)
    rw [hp] at this
    exact this
  refine ⟨⟨on _ _ (ne_of b.ob b.al (by intro z; cases z)) b.ob, upd_same, nd_putK _ b.nd nv, fun e he => ?_, fun j hj => ?_, fun j c hj => ?_, fun j i c d hj hi e => ?_, fun j c s' hc hs' => ?_, .inl b.fx, .inl b.fal, b.nx, b.nal, fun c h => .inl (b.sub c h), fun c h => ?_, ⟨R, far, w.keep fun c o e z => on c o ?_ e, g⟩, b.ws⟩, Ch.of1 (x := A.al) (fun c o e z => on c o (fun q => z (by rw [q]; exact b.fal)) e) (fun c h => ?_) on ⟨_, upd_same⟩⟩
  · have he' : e ∈ putK A.kvs (Sum.inl n) (.ref p) := he
    rw [putK_new _ nv, List.mem_append, List.mem_singleton] at he'
    rcases he' with he' | rfl
    · exact b.ks e he'
    · exact ⟨n, rfl, h0, h1⟩
  · show valV (putK A.kvs (Sum.inl n) (.ref p)) (Sum.inl j) = none
    rw [valV_put]
    by_cases e : j = n
    · rw [e, setM_same] at hj
      cases hj
    · rw [if_neg (fun z => e (Sum.inl.inj z))]
      rw [setM_ne e] at hj
      exact b.no j hj
  · show valV (putK A.kvs (Sum.inl n) (.ref p)) (Sum.inl j) = some (.ref (if j = n then p else A.aa j)) ∧ AlAt CA _ (if j = n then p else A.aa j) c ∧ (F (if j = n then p else A.aa j) ∨ (if j = n then p else A.aa j) = p) ∧ ¬ A.fw (if j = n then p else A.aa j) ∧ _
    rw [valV_put]
    by_cases e : j = n
    · subst e
      rw [if_pos rfl, if_pos rfl]
      rw [setM_same] at hj
      cases hj
      obtain ⟨dx, wn, y2, y3⟩ := ha
      exact ⟨rfl, ⟨dx, wn, by rw [upd_ne npa]; exact y2, y3⟩, .inr rfl, nfw, h0, h1⟩
    · rw [setM_ne e] at hj
      obtain ⟨y1, ⟨dx, wn, y2, y3⟩, y4, y5, y6⟩ := b.yes j c hj
      rw [if_neg (fun z => e (Sum.inl.inj z)), if_neg e]
      exact ⟨y1, ⟨dx, wn, on _ _ (ne_of y2 b.al (by intro z; cases z)) y2, y3⟩, .inl y4, y5, y6⟩
  · have e' : (if j = n then p else A.aa j) = (if i = n then p else A.aa i) := e
    by_cases ej : j = n
    · by_cases ei : i = n
      · rw [ej, ei]
      · rw [if_pos ej, if_neg ei] at e'
        rw [setM_ne ei] at hi
        obtain ⟨_, y2, _⟩ := b.yes i d hi
        obtain ⟨_, _, y2⟩ := y2.some
        rw [← e', hp] at y2
        cases y2
    · rw [setM_ne ej] at hj
      by_cases ei : i = n
      · rw [if_neg ej, if_pos ei] at e'
        obtain ⟨_, y2, _⟩ := b.yes j c hj
        obtain ⟨_, _, y2⟩ := y2.some
        rw [e', hp] at y2
        cases y2
      · rw [setM_ne ei] at hi
        rw [if_neg ej, if_neg ei] at e'
        exact b.inj j i c d hj hi e'
  · by_cases e : j = n
    · rw [e, setM_same] at hc
      cases hc
      exact hs s' hs'
    · rw [setM_ne e] at hc
      exact b.stp j c s' hc hs'
  · by_cases e : c = A.al
    · rw [e, upd_same]
      trivial
    · rcases h with h | h
      · have mm := b.own c h
        obtain ⟨o, q⟩ := mut_some mm
        rw [on c o e q, ← q]
        exact mm
      · rw [h, upd_ne npa, e1]
        trivial
  · rintro rfl
    rcases z with z | ⟨xs, rfl⟩
    · exact b.nal z
    · rw [b.al] at e
      cases e
  · rcases h with h | rfl
    · exact .inl h
    · exact .inr hp
/-- an alarm is taken out of the book's dict -/
theorem BAt.popAl (b : BAt CW CA CB H F A S L now tn many m Wp) (n : Int) :
    BAt CW CA CB (upd H A.al (.dK (dropK A.kvs (Sum.inl n)))) F { A with kvs := dropK A.kvs (Sum.inl n) } S L now tn many (setM m n none) Wp ∧ Ch F F H (upd H A.al (.dK (dropK A.kvs (Sum.inl n)))) := by
  have on : ∀ c o, c ≠ A.al → H c = some o → upd H A.al (.dK (dropK A.kvs (Sum.inl n))) c = some o := fun c o z e => by
    rw [upd_ne z]
    exact e
  obtain ⟨R, far, w, g⟩ := b.wh
  have ne : ∀ j c, setM m n none j = some c → j ≠ n ∧ m j = some c := fun j c h => by
    by_cases e : j = n
    · rw [e, setM_same] at h
      cases h
    · rw [setM_ne e] at h
      exact ⟨e, h⟩
  refine ⟨⟨on _ _ (ne_of b.ob b.al (by intro z; cases z)) b.ob, upd_same, nd_dropK b.nd, fun e he => b.ks e (dropK_mem he), fun j hj => ?_, fun j c hj => ?_, fun j i c d hj hi e => b.inj j i c d (ne j c hj).2 (ne i d hi).2 e, fun j c s' hc hs' => b.stp j c s' (ne j c hc).2 hs', b.fx, b.fal, b.nx, b.nal, b.sub, fun c h => ?_, ⟨R, far, w.keep fun c o e z => on c o ?_ e, g⟩, b.ws⟩, Ch.upd b.fal (Same.refl H)⟩
  · show valV (dropK A.kvs (Sum.inl n)) (Sum.inl j) = none
    rw [valV_drop]
    by_cases e : j = n
    · rw [if_pos (by rw [e])]
    · rw [if_neg (fun z => e (Sum.inl.inj z))]
      rw [setM_ne e] at hj
      exact b.no j hj
  · obtain ⟨e, hj⟩ := ne j c hj
    obtain ⟨y1, ⟨dx, wn, y2, y3⟩, y4⟩ := b.yes j c hj
    refine ⟨?_, ⟨dx, wn, on _ _ (ne_of y2 b.al (by intro z; cases z)) y2, y3⟩, y4⟩
    show valV (dropK A.kvs (Sum.inl n)) (Sum.inl j) = _
    rw [valV_drop, if_neg (fun z => e (Sum.inl.inj z))]
    exact y1
  · by_cases e : c = A.al
    · rw [e, upd_same]
      trivial
    · rw [upd_ne e]
      exact b.own c h
  · rintro rfl
    rcases z with z | ⟨xs, rfl⟩
    · exact b.nal z
    · rw [b.al] at e
      cases e
/-- an alarm's fields are written -/
theorem BAt.updAl (b : BAt CW CA CB H F A S L now tn many m Wp) {n : Int} {a a' : Al Str} {dx : Addr} {fs : List (Str × V)} (hn : m n = some a) (ha : AlAt CA (upd H (A.aa n) (.ins CA dx fs)) (A.aa n) a') (hs : a'.step = a.step) :
    BAt CW CA CB (upd H (A.aa n) (.ins CA dx fs)) F A S L now tn many (setM m n (some a')) Wp ∧ Ch F F H (upd H (A.aa n) (.ins CA dx fs)) := by
  obtain ⟨z1, z2, z3, z4, z5⟩ := b.yes n a hn
  obtain ⟨dz, wz, z2, _⟩ := z2
  have on : ∀ c o, c ≠ A.aa n → H c = some o → upd H (A.aa n) (.ins CA dx fs) c = some o := fun c o z e => by
    rw [upd_ne z]
    exact e
  obtain ⟨R, far, w, g⟩ := b.wh
  refine ⟨⟨on _ _ (ne_of b.ob z2 fun z => ins_ab z.symm) b.ob, on _ _ (ne_of b.al z2 (by intro z; cases z)) b.al, b.nd, b.ks, fun j hj => ?_, fun j c hj => ?_, fun j i c d hj hi e => ?_, fun j c s' hc hs' => ?_, b.fx, b.fal, b.nx, b.nal, b.sub, fun c h => ?_, ⟨R, far, w.keep fun c o e z => on c o ?_ e, g⟩, b.ws⟩, Ch.upd z3 (Same.refl H)⟩
  · by_cases e : j = n
    · rw [e, setM_same] at hj
      cases hj
    · rw [setM_ne e] at hj
      exact b.no j hj
  · by_cases e : j = n
    · subst e
      rw [setM_same] at hj
      cases hj
      exact ⟨z1, ha, z3, z4, z5⟩
    · rw [setM_ne e] at hj
      obtain ⟨y1, ⟨dx', wn, y2, y3⟩, y4⟩ := b.yes j c hj
      exact ⟨y1, ⟨dx', wn, on _ _ (fun z => e (b.inj j n c a hj hn z)) y2, y3⟩, y4⟩
  · have hj' : ∃ c, m j = some c := by
      by_cases e : j = n
      · rw [e]
        exact ⟨a, hn⟩
      · rw [setM_ne e] at hj
        exact ⟨c, hj⟩
    have hi' : ∃ d, m i = some d := by
      by_cases e : i = n
      · rw [e]
        exact ⟨a, hn⟩
      · rw [setM_ne e] at hi
        exact ⟨d, hi⟩
    obtain ⟨c', hj'⟩ := hj'
    obtain ⟨d', hi'⟩ := hi'
    exact b.inj j i c' d' hj' hi' e
  · by_cases e : j = n
    · rw [e, setM_same] at hc
      cases hc
      exact b.stp n a s' hn (hs ▸ hs')
    · rw [setM_ne e] at hc
      exact b.stp j c s' hc hs'
  · by_cases e : c = A.aa n
    · rw [e, upd_same]
      trivial
    · rw [upd_ne e]
      exact b.own c h
  · rintro rfl
    rcases z with z | ⟨xs, rfl⟩
    · exact z4 z
    · rw [z2] at e
      cases e
end
end L2.TK
set_option Elab.async false
set_option linter.all false
set_option maxRecDepth 100000
namespace L2.TK
open PySem
def top (i : Nat) : Stmt := PySem.Challenge.pw_tickbook_k11_where.main.body.getD i (.Pass ⟨0, 0, 0, 0⟩)
abbrev s_wall : Stmt := top 0
abbrev sWheels_init : Stmt := inClass (top 9) 0
abbrev sWheels_place : Stmt := inClass (top 9) 1
abbrev sWheels_put : Stmt := inClass (top 9) 2
abbrev sWheels_drop : Stmt := inClass (top 9) 3
abbrev sWheels_soonest : Stmt := inClass (top 9) 4
abbrev sWheels_turn : Stmt := inClass (top 9) 5
abbrev sWheels_take_now : Stmt := inClass (top 9) 6
abbrev sAlarm_init : Stmt := inClass (top 11) 0
abbrev sBook_init : Stmt := inClass (top 12) 0
abbrev sBook_time : Stmt := inClass (top 12) 1
abbrev sBook_waiting : Stmt := inClass (top 12) 2
abbrev sBook_resting : Stmt := inClass (top 12) 3
abbrev sBook_need : Stmt := inClass (top 12) 4
abbrev sBook_due : Stmt := inClass (top 12) 5
abbrev sBook_left : Stmt := inClass (top 12) 6
abbrev sBook_where : Stmt := inClass (top 12) 7
abbrev sBook_lying : Stmt := inClass (top 12) 8
abbrev sBook_soonest : Stmt := inClass (top 12) 9
abbrev s_set_alarm : Stmt := top 13
abbrev s_take_back : Stmt := top 14
abbrev s_move : Stmt := top 15
abbrev s_rest : Stmt := top 16
abbrev s_go_on : Stmt := top 17
abbrev s_ring : Stmt := top 18
abbrev s_step_to : Stmt := top 19
abbrev s_pass_ticks : Stmt := top 20
abbrev s_law_cell : Stmt := top 22
abbrev s_law_mix : Stmt := top 23
abbrev s_law_whole : Stmt := top 24
abbrev s_law_new : Stmt := top 25
abbrev s_law_set : Stmt := top 26
abbrev s_law_move : Stmt := top 27
abbrev s_law_back : Stmt := top 28
abbrev s_law_rest : Stmt := top 29
abbrev s_law_on : Stmt := top 30
abbrev s_law_pass : Stmt := top 31
abbrev s_law_wheels : Stmt := top 32
abbrev s_law_ticks : Stmt := top 33
abbrev s_law_deed : Stmt := top 34
abbrev s_law_done : Stmt := top 35
abbrev s_law_asked : Stmt := top 36
abbrev s_law_where : Stmt := top 37
abbrev s_law_lies : Stmt := top 38
abbrev s_law_none : Stmt := top 39
abbrev s_law : Stmt := top 40
end L2.TK
set_option Elab.async false
set_option linter.all false
set_option maxRecDepth 100000
/-! What the walk asks of the program as its top has made it. -/
namespace L2.TK
open PySem PySem.Spec TkM
theorem pow_small {S : Int} {i : Nat} (h2 : 2 ≤ S) (h : S ≤ 64) (hi : i ≤ 6) : 0 < S ^ i ∧ S ^ i < 2 ^ 60 := by
  refine ⟨Int.pow_pos (by omega), ?_⟩
  have a : S ^ i ≤ 64 ^ i := by
    clear hi
    induction i with
    | zero => simp
    | succ i ih =>
      rw [Int.pow_succ, Int.pow_succ]
      exact Int.mul_le_mul ih h (by omega) (Int.le_of_lt (Int.pow_pos (by decide)))
  have b : (64 : Int) ^ i ≤ 64 ^ 6 := by
    rcases (by omega : i = 0 ∨ i = 1 ∨ i = 2 ∨ i = 3 ∨ i = 4 ∨ i = 5 ∨ i = 6) with e | e | e | e | e | e | e <;> subst e <;> decide
  exact Int.lt_of_le_of_lt (Int.le_trans a b) (by decide)
/-- an own error: below TickError (at T), which is below ValueError -/
structure Err (K : PySem.W.Frag) (mg : Str → Option Value) (x : Str) (C T : Addr) : Prop where
  g : mg x = some (.ref C)
  ex : PySem.W.excIn K C [.type "ValueError", .type "Exception", .type "BaseException", .type "object"] "ValueError.__new__" = true
  kp : PySem.W.keepIn K (.ref C) = true
  base : PySem.W.subIn K (.ref C) (.type "BaseException") = some true
  ty : PySem.W.typeIn K (.ref C) = some (.type "type")
  tick : PySem.W.exmOne K (.ref C) (.ref T) = some true
  isC : ExcC K C
  ve : PySem.W.kitOne K (.ref C) (.type "ValueError") = some true
/-- what the top has written: the classes' places, their attributes -/
structure Txt (K : PySem.W.Frag) (mg : Str → Option Value) (CW CA CB CT CBad CPast CNot : Addr) : Prop where
  clW : Cls K CW
  clA : Cls K CA
  clB : Cls K CB
  wSlots : NoAttr K CW "slots"
  wLevels : NoAttr K CW "levels"
  wSpans : NoAttr K CW "spans"
  wRows : NoAttr K CW "rows"
  wFar : NoAttr K CW "far"
  aName : NoAttr K CA "name"
  aWhen : NoAttr K CA "when"
  aStep : NoAttr K CA "step"
  aRest : NoAttr K CA "rest"
  bWheels : NoAttr K CB "wheels"
  bNow : NoAttr K CB "now"
  bMany : NoAttr K CB "many"
  bAlarms : NoAttr K CB "alarms"
  mgW : mg "Wheels" = some (.ref CW)
  mgA : mg "Alarm" = some (.ref CA)
  mgB : mg "Book" = some (.ref CB)
  mgT : mg "TickError" = some (.ref CT)
  slots : ∃ t, mg "MOST_SLOTS" = some (.int 64 t)
  levels : ∃ t, mg "MOST_LEVELS" = some (.int 6 t)
  bad : Err K mg "BadWheels" CBad CT
  past : Err K mg "Past" CPast CT
  nott : Err K mg "NotThere" CNot CT
  range : mg "range" = none
  reversed : mg "reversed" = none
  sorted : mg "sorted" = none
  min : mg "min" = none
  len : mg "len" = none
  isi : mg "isinstance" = none
  neAB : CA ≠ CB
  neAW : CA ≠ CW
  neBW : CB ≠ CW
/-- a function of the module keeps its promise -/
def GFn (P : Program) (w : World) (K : PySem.W.Frag) (mg : Str → Option Value) (base : Heap) (CX : CXT) (k : Nat) (x : Str) (ps : List Str) (sp : Sp) : Prop :=
  ∃ (f : Addr) (fd : FuncData), mg x = some (.ref f) ∧ PySem.W.keepIn K (.ref f) = true ∧ Binds K fd ps [] ∧ FnOk P w K mg base CX k f fd ps sp
/-- a method keeps its promise -/
def GMe (P : Program) (w : World) (K : PySem.W.Frag) (mg : Str → Option Value) (base : Heap) (CX : CXT) (k : Nat) (C : Addr) (m : Str) (ps : List Str) (sp : Sp) : Prop :=
  ∃ (f : Addr) (fd : FuncData), Meth K C m f ∧ Binds K fd ps [] ∧ FnOk P w K mg base CX k f fd ps sp
/-- an __init__ keeps its promise -/
def GMk (P : Program) (w : World) (K : PySem.W.Frag) (mg : Str → Option Value) (base : Heap) (CX : CXT) (k : Nat) (C : Addr) (ps : List Str) (sp : Sp) : Prop :=
  ∃ (f : Addr) (fd : FuncData), Mk K C f ∧ Binds K fd ps [] ∧ FnOk P w K mg base CX k f fd ps sp
theorem fmodP {a b : Int} (h : 0 < b) : a.fmod b = a % b := Int.fmod_eq_emod_of_nonneg a (by omega)
theorem wdiv {i j : Int} (h : 0 < j) (hb : j < 2 ^ 60) : CDivW i j := wide_div (b := 60) h (by omega) (by decide) (by decide)
theorem ifT {c A B : Prop} [Decidable c] (hc : c) (h : A) : if decide c = true then A else B := by
  rw [decide_eq_true hc]
  exact iteT h
theorem ifF {c A B : Prop} [Decidable c] (hc : ¬ c) (h : B) : if decide c = true then A else B := by
  rw [decide_eq_false hc]
  exact iteF h
theorem ifNT {c A B : Prop} [Decidable c] (hc : ¬ c) (h : A) : if (!decide c) = true then A else B := by
  rw [decide_eq_false hc]
  exact iteT h
theorem ifNF {c A B : Prop} [Decidable c] (hc : c) (h : B) : if (!decide c) = true then A else B := by
  rw [decide_eq_true hc]
  exact iteF h
theorem ifB {b : Bool} {A B : Prop} (hb : b = true) (h : A) : if b = true then A else B := by
  rw [hb]
  exact iteT h
theorem ifNB {b : Bool} {A B : Prop} (hb : b = false) (h : B) : if b = true then A else B := by
  rw [hb]
  exact iteF h
theorem if2 {c A B : Prop} [Decidable c] (h1 : c → A) (h2 : ¬ c → B) : if decide c = true then A else B := by
  by_cases h : c
  · exact ifT h (h1 h)
  · exact ifF h (h2 h)
/-! ### the least of pairs -/
theorem lt_pair (p q : Int × Int) : PySem.W.DatumOrd.lt p q = if p.1 = q.1 then decide (p.2 < q.2) else decide (p.1 < q.1) := rfl
theorem min_fold (xs : List (Int × Int)) : ∀ x : Int × Int, PySem.W.minOf x xs ∈ x :: xs ∧ ∀ q ∈ x :: xs, (PySem.W.minOf x xs).1 < q.1 ∨ ((PySem.W.minOf x xs).1 = q.1 ∧ (PySem.W.minOf x xs).2 ≤ q.2) := by
  induction xs with
  | nil =>
    intro x
    refine ⟨List.mem_cons_self, fun q hq => ?_⟩
    rw [List.mem_singleton.mp hq]
    exact .inr ⟨rfl, Int.le_refl _⟩
  | cons y ys ih =>
    intro x
    show PySem.W.minOf (if PySem.W.DatumOrd.lt y x = true then y else x) ys ∈ x :: y :: ys ∧ ∀ q ∈ x :: y :: ys, (PySem.W.minOf (if PySem.W.DatumOrd.lt y x = true then y else x) ys).1 < q.1 ∨ ((PySem.W.minOf (if PySem.W.DatumOrd.lt y x = true then y else x) ys).1 = q.1 ∧ (PySem.W.minOf (if PySem.W.DatumOrd.lt y x = true then y else x) ys).2 ≤ q.2)
    by_cases c : PySem.W.DatumOrd.lt y x = true
    · rw [if_pos c]
      obtain ⟨h1, h2⟩ := ih y
      refine ⟨List.mem_cons_of_mem _ h1, fun q hq => ?_⟩
      rcases List.mem_cons.mp hq with rfl | hq
      · have h3 := h2 y List.mem_cons_self
        rw [lt_pair] at c
        split at c
        · have := of_decide_eq_true c
          omega
        · have := of_decide_eq_true c
          omega
      · exact h2 q hq
    · rw [if_neg c]
      obtain ⟨h1, h2⟩ := ih x
      refine ⟨?_, fun q hq => ?_⟩
      · rcases List.mem_cons.mp h1 with h | h
        · rw [h]
          exact List.mem_cons_self
        · exact List.mem_cons_of_mem _ (List.mem_cons_of_mem _ h)
      · rcases List.mem_cons.mp hq with rfl | hq
        · exact h2 _ List.mem_cons_self
        · rcases List.mem_cons.mp hq with rfl | hq
          · have h3 := h2 x List.mem_cons_self
            rw [lt_pair] at c
            split at c
            · have : ¬ q.2 < x.2 := fun z => c (decide_eq_true z)
              omega
            · have : ¬ q.1 < x.1 := fun z => c (decide_eq_true z)
              omega
          · exact h2 q (List.mem_cons_of_mem _ hq)
theorem min_at {H : Hp} {ts : List Addr} {x : Int × Int} {xs : List (Int × Int)} {i : Nat} {v : V} (h : TsAt H ts (x :: xs)) (hi : (ts.map V.ref)[i]? = some v) (hm : (x :: xs)[i]? = some (PySem.W.minOf x xs)) :
    ∃ t, v = .ref t ∧ H t = some (.tup [.int (PySem.W.minOf x xs).1, .int (PySem.W.minOf x xs).2]) := by
  obtain ⟨t, ht, e⟩ := paired_at h hm
  rw [List.getElem?_map, ht] at hi
  exact ⟨t, (Option.some.inj hi).symm, e⟩
theorem room2 {A : Around} {k : Nat} (hr : Room k A) : A.units + 1 + PySem.W.Datum.depth (Int × Int) < cLine := by
  have h := hr.un
  have e : PySem.W.Datum.depth (Int × Int) ≤ 10 := by decide
  omega
/-! ### a list comprehension over a list, whose element leaves the heap as it is -/
theorem lc_map {K : PySem.W.Frag} {a : Addr} {xs : List V} {f : V → V} {i : Nat} {te : TE} {sg : St} {H5 : Hp} {Q : VK} (hs : SqL K H5 a xs) (hz : xs.length < sizeLine) (hte : ∀ x ∈ xs, ∀ (H' : Hp) (Q : VK), Same H5 H' → Q (f x) H' → te ((wipe sg [i]).set i (some x)) H' Q)
    (hw : ∀ x : V, wipe ((wipe sg [i]).set i (some x)) [i] = wipe sg [i]) (k : ∀ (D : Addr) (H' : Hp), H5 D = none → Same H5 H' → H' D = some (.lst (xs.map f)) → Q (.ref D) H') :
    tLc (iList K (fun _ H Q => Q (.ref a) H)) (gName i) tYes te [i] sg H5 Q := by
  refine ⟨a, rfl, ⟨_, hs⟩, fun D hD => ?_⟩
  refine lc_list (K := K) (a := a) (xs := xs) (fun j H' => H' D = some (.lst ((xs.take j).map f)) ∧ Same H5 H') ⟨by rw [upd_same]; rfl, Same.new hD⟩ (fun j H' _ h => h.2.seq hs) (fun j x H' hx ⟨h1, h2⟩ => ?_) (fun H' ⟨h1, h2⟩ => ?_)
  · refine ⟨hw x, ?_⟩
    refine hte x (List.mem_of_getElem? hx) H' _ h2 ?_
    have hj : j < xs.length := (List.getElem?_eq_some_iff.mp hx).1
    refine ⟨_, h1, ?_, ?_, fun b o e => ?_⟩
    · rw [List.length_map, List.length_take]
      omega
    · rw [upd_same, List.take_succ, hx, List.map_append]
      rfl
    · rw [upd_ne (ne_of_none e hD)]
      exact h2 b o e
  · rw [List.take_length] at h1
    exact k D H' hD h2 h1
def sndV (H : Hp) : V → V
  | .ref t => match H t with
    | some (.tup (_ :: y :: _)) => y
    | _ => .non
  | _ => .non
theorem snd_at {H : Hp} {t : Addr} {x y : V} {r : List V} (h : H t = some (.tup (x :: y :: r))) : sndV H (.ref t) = y := by
  show (match H t with | some (.tup (_ :: y :: _)) => y | _ => V.non) = y
  rw [h]
theorem snd_map {H : Hp} : ∀ {ts : List Addr} {ps : List (Int × Int)}, TsAt H ts ps → (ts.map V.ref).map (sndV H) = (ps.map (·.2)).map V.int
  | _, _, .nil => rfl
  | _, _, .cons h t => by
    rw [List.map_cons, List.map_cons, snd_at h, snd_map t]
    rfl
theorem ts_mem {H : Hp} : ∀ {ts : List Addr} {ps : List (Int × Int)}, TsAt H ts ps → ∀ x ∈ ts.map V.ref, ∃ (t : Addr) (p : Int × Int), x = .ref t ∧ p ∈ ps ∧ H t = some (.tup [.int p.1, .int p.2])
  | _, _, .nil, x, hx => by cases hx
  | _, _, .cons (a := t) (b := p) h r, x, hx => by
    rcases List.mem_cons.mp hx with rfl | hx
    · exact ⟨t, p, rfl, List.mem_cons_self, h⟩
    · obtain ⟨t', p', a, b, c⟩ := ts_mem r x hx
      exact ⟨t', p', a, List.mem_cons_of_mem _ b, c⟩
/-- a list comprehension over the keys of a locked dict, with a test -/
theorem lc_keysF {d : Addr} {od : Obj} {kvs : List (Key × V)} {f : Key → Bool} {i : Nat} {td : TE} {tt : TT} {te : TE} {sg : St} {H5 : Hp} {Q : VK} (htd : ∀ (Q : VK), Q (.ref d) H5 → td sg H5 Q) (hd : H5 d = some (.frz od (.dK kvs))) (hz : kvs.length < sizeLine)
    (htt : ∀ k v, (k, v) ∈ kvs → ∀ (H' : Hp) (Q : Bool → Hp → Prop), Same H5 H' → Q (f k) H' → tt ((wipe sg [i]).set i (some (kV k))) H' Q) (hte : ∀ k, ∀ (H' : Hp) (Q : VK), Q (kV k) H' → te ((wipe sg [i]).set i (some (kV k))) H' Q)
    (hw : ∀ x : V, wipe ((wipe sg [i]).set i (some x)) [i] = wipe sg [i]) (k : ∀ (D : Addr) (H' : Hp), H5 D = none → Same H5 H' → H' D = some (.lst ((kvs.filter fun e => f e.1).map fun e => kV e.1)) → Q (.ref D) H') :
    tLc (iKeys td) (gName i) tt te [i] sg H5 Q := by
  refine htd _ ⟨d, od, rfl, .inl ⟨kvs, hd, fun D hD => ?_⟩⟩
  refine lc_it walk_keys (fun j H' => H' D = some (.lst (((kvs.take j).filter fun e => f e.1).map fun e => kV e.1)) ∧ Same H5 H') ⟨by rw [upd_same]; rfl, Same.new hD⟩ (fun j H' _ h => h.2 _ _ hd) (fun j x H' H2 hj ⟨h1, h2⟩ hy => ?_) (fun H' ⟨h1, h2⟩ => ?_)
  · obtain ⟨rfl, kk, v, e, rfl⟩ := hy
    refine ⟨hw _, ?_⟩
    have et : (kvs.take (j + 1)).filter (fun e => f e.1) = (kvs.take j).filter (fun e => f e.1) ++ if f kk = true then [(kk, v)] else [] := by
      rw [List.take_succ, e, List.filter_append]
      congr 1
      by_cases c : f kk = true
      · simp [c]
      · simp [c]
    refine htt kk v (List.mem_of_getElem? e) H2 _ h2 ?_
    cases c : f kk with
    | true =>
      refine iteT ?_
      refine hte kk H2 _ ⟨_, h1, ?_, ?_, fun b o e => ?_⟩
      · rw [List.length_map]
        refine Nat.lt_of_le_of_lt (List.length_filter_le _ _) ?_
        rw [List.length_take]
        omega
      · rw [upd_same, et, if_pos c, List.map_append]
        rfl
      · rw [upd_ne (ne_of_none e hD)]
        exact h2 b o e
    | false =>
      refine iteF ⟨?_, h2⟩
      rw [et, if_neg (by rw [c]; exact Bool.false_ne_true), List.append_nil]
      exact h1
  · rw [List.take_length] at h1
    exact k D H' hD h2 h1
end L2.TK
set_option Elab.async false
set_option linter.all false
set_option maxRecDepth 100000
set_option maxHeartbeats 2000000
namespace L2.TK
open PySem TkM
def spWInit (CW CBad : Addr) : Sp := fun vs H Q E => ∃ (p dx : Addr) (S : Int) (l : Int), vs = [.ref p, .int S, .int l] ∧ H p = some (.ins CW dx []) ∧
  (¬ (2 ≤ S ∧ S ≤ 64 ∧ 1 ≤ l ∧ l ≤ 6) → E (.ref CBad) none H) ∧
  (2 ≤ S ∧ S ≤ 64 ∧ 1 ≤ l ∧ l ≤ 6 → ∀ (A : WA) (F : Addr → Prop) (H' : Hp), A.x = p → WAt CW H' F A S l.toNat (fun _ => []) [] → Ch (fun a => a = p) F H H' → Q .non H')
section
variable {P : Program} {w : World} {K : PySem.W.Frag} {mg : Str → Option Value} {base : Heap} {CW CA CB CT CBad CPast CNot : Addr}
theorem scWInit : FnScope ["self", "slots", "levels", "k"] ["self", "slots", "levels"] (defScope sWheels_init) := ⟨rfl, rfl, rfl, by decide +kernel, rfl, by decide +kernel, by decide +kernel⟩
theorem ok_WInit {f : Addr} {fd : FuncData} (F : Fun K "__init__" "Wheels.__init__" sWheels_init f fd) (T : Txt K mg CW CA CB CT CBad CPast CNot) : FnOk P w K mg base (L2.CX P w) 1 f fd ["self", "slots", "levels"] (spWInit CW CBad) := by
  refine F.okX scWInit (fun vs H Q E h => ?_) (fun cdv A outer s H vs Q E hr h => ?_)
  · obtain ⟨p, dx, S, l, rfl, _⟩ := h
    rfl
  · obtain ⟨p, dx, S, l, rfl, hp, kE, k⟩ := h
    obtain ⟨t1, ms⟩ := T.slots
    obtain ⟨t2, ml⟩ := T.levels
    refine ⟨_, pss_cons (ps_if (PW.pt (pw_or (pt_not ((pt_chain op_le op_le pe_int (pv 1) (pe_glob (v := .int 64) rfl ms ⟨_, rfl⟩)))) (pw_or1 (pt_not ((pt_chain op_le op_le pe_int (pv 2) (pe_glob (v := .int 6) rfl ml ⟨_, rfl⟩)))))))
        (pss_one (ps_raise rfl (takes_of rfl rfl rfl rfl) (pmk_own PySem.F.excBase_ValueError T.bad.ex T.bad.g T.bad.kp (raises_own T.bad.base T.bad.ty) rfl))) pss_nil)
      (pss_cons (ps_fld (pv 0) (pv 1) rfl) (pss_cons (ps_fld (pv 0) (pv 2) rfl) (pss_cons (ps_fld (pv 0) (pe_lst (pa_cons pe_int pa_nil)) rfl)
      (pss_cons (ps_for (passes_of rfl) rfl (pi_range1 rfl T.range (pa_cons (pv 2) pa_nil)) (pg_name (i := 3) scWInit.nd rfl (Or.inl rfl))
        (pss_one (ps_expr (pe_bm PySem.F.plainAttrs_list PySem.F.slot_list_append PySem.F.type_list_append mt_append (pe_fld (pv 0) rfl) (pa_cons (pe_op op_mul (pe_ix ix_list (pe_fld (pv 0) rfl) (pv 3) (fun _ _ => rfl)) (pv 1)) pa_nil)))))
      (pss_cons (ps_fld (pv 0) pe_dnewT rfl) (pss_one (ps_fld (pv 0) (pe_lst pa_nil) rfl))))))), ?_⟩
    by_cases h1 : 2 ≤ S ∧ S ≤ 64 ∧ 1 ≤ l ∧ l ≤ 6
    · obtain ⟨a1, a2, a3, a4⟩ := id h1
      refine ⟨_, rfl, _, _, rfl, rfl, _, rfl, ifT a1 ⟨_, _, rfl, rfl, _, rfl, ifNF a2 ⟨_, rfl, _, _, rfl, rfl, _, rfl, ifT a3 ⟨_, _, rfl, rfl, _, rfl, ifNF a4 ?_⟩⟩⟩⟩
      refine ⟨_, rfl, _, rfl, p, CW, dx, _, rfl, hp, T.clW, T.wSlots, (by show 0 < 1000; decide), ?_⟩
      refine ⟨_, rfl, _, rfl, p, CW, dx, _, rfl, upd_same, T.clW, T.wLevels, (by show 1 < 1000; decide), ?_⟩
      refine ⟨Nat.le_of_lt (small1000 (by decide)), fun sp hsp => ?_⟩
      have np : p ≠ sp := fun z => by
        rw [← z, upd_same] at hsp
        cases hsp
      have hsp0 : H sp = none := by
        rw [upd_ne np.symm, upd_ne np.symm] at hsp
        exact hsp
      refine ⟨_, rfl, p, CW, dx, _, rfl, Eq.trans (upd_ne np) upd_same, T.clW, T.wSpans, (by show 2 < 1000; decide), ?_⟩
      refine ⟨_, rfl, l, rfl, by omega, by omega, for_range (lo := 0) (n := l.toNat) (fun i sg H' => (∃ v, sg = [some (.ref p), some (.int S), some (.int l), v]) ∧ H' p = some (.ins CW dx [("slots", .int S), ("levels", .int l), ("spans", .ref sp)]) ∧ H' sp = some (.lst (spans S (i + 1))) ∧
        ∀ a o, H a = some o → a ≠ p → H' a = some o) ?_ ?_ ?_⟩
      · refine ⟨⟨none, rfl⟩, upd_same, by rw [upd_ne np.symm, upd_same, spans_one], fun a o e hb => ?_⟩
        rw [upd_ne hb, upd_ne (ne_of_none e hsp0), upd_ne hb, upd_ne hb]
        exact e
      · rintro i sg H' hi ⟨⟨v, rfl⟩, e1, e2, e3⟩
        obtain ⟨s1, s2⟩ := pow_small (i := i) a1 a2 (by omega)
        have nps : p ≠ sp := np
        refine ⟨_, rfl, p, CW, dx, _, _, rfl, e1, T.clW, T.wSpans, rfl, .inl ⟨rfl, _, SqL.of e2⟩, ?_⟩
        refine ⟨_, rfl, p, CW, dx, _, _, rfl, e1, T.clW, T.wSpans, rfl, _, rfl, sp, _, _, _, rfl, rfl, SqL.of e2, at_of (by simp) (spans_get (l := i) (by omega)), ?_⟩
        refine ⟨_, rfl, _, _, rfl, rfl, .inl ⟨by omega, by omega⟩, sp, _, _, rfl, rfl, e2, small1000 (by rw [spans_len]; omega), ?_⟩
        refine ⟨⟨_, rfl⟩, by rw [upd_ne nps]; exact e1, by rw [upd_same, spans_succ (n := i + 1), Int.pow_succ], fun a o e hb => ?_⟩
        rw [upd_ne (ne_of_none e hsp0)]
        exact e3 a o e hb
      · rintro sg H1 ⟨⟨v, rfl⟩, e1, e2, e3⟩
        intro rw hrw
        have npr : p ≠ rw := ne_of_none e1 hrw
        refine ⟨_, rfl, p, CW, dx, _, rfl, by rw [upd_ne npr]; exact e1, T.clW, T.wRows, (by show 3 < 1000; decide), ?_⟩
        refine ⟨Nat.zero_le _, fun fr hfr => ?_⟩
        have npf : p ≠ fr := fun z => by
          rw [← z, upd_same] at hfr
          cases hfr
        have nrf : rw ≠ fr := fun z => by
          rw [← z, upd_ne npr.symm, upd_same] at hfr
          cases hfr
        have hfr1 : H1 fr = none := by
          rw [upd_ne npf.symm, upd_ne nrf.symm] at hfr
          exact hfr
        refine ⟨_, rfl, p, CW, dx, _, rfl, Eq.trans (upd_ne npf) upd_same, T.clW, T.wFar, (by show 4 < 1000; decide), ?_⟩
        have el : ((l.toNat : Nat) : Int) = l := by omega
        have nsr : sp ≠ rw := ne_of_none e2 hrw
        have nsf : sp ≠ fr := ne_of_none e2 hfr1
        refine k h1 ⟨p, dx, sp, rw, fr, fun _ => p, []⟩ (fun a => a = p ∨ a = sp ∨ a = rw ∨ a = fr) _ rfl ?_ ?_
        · refine ⟨?_, ?_, ?_, ?_, nsf, List.nodup_nil, fun e he => (nomatch he), fun k _ => valV_nil, fun k h => absurd rfl h, fun k j h => absurd rfl h, .inl rfl, .inr (.inl rfl), .inr (.inr (.inl rfl)), .inr (.inr (.inr rfl)), ?_⟩
          · show upd _ p _ p = _
            rw [upd_same]
            show some (HO.ins CW dx [("slots", .int S), ("levels", .int l), ("spans", .ref sp), ("rows", .ref rw), ("far", .ref fr)]) = _
            unfold wf
            rw [el]
          · show upd _ p _ sp = _
            rw [upd_ne np.symm, upd_ne nsf, upd_ne np.symm, upd_ne nsr]
            exact e2
          · show upd _ p _ rw = _
            rw [upd_ne npr.symm, upd_ne nrf, upd_ne npr.symm, upd_same]
          · refine ⟨[], ?_, .nil⟩
            show upd _ p _ fr = _
            rw [upd_ne npf.symm, upd_same]
            rfl
          · rintro a (rfl | rfl | rfl | rfl)
            · rw [upd_same]
              trivial
            · rw [upd_ne np.symm, upd_ne nsf, upd_ne np.symm, upd_ne nsr, e2]
              trivial
            · rw [upd_ne npr.symm, upd_ne nrf, upd_ne npr.symm, upd_same]
              trivial
            · rw [upd_ne npf.symm, upd_same]
              trivial
        · have kk : ∀ a o, H a = some o → a ≠ p → _ := fun a o e hb => e3 a o e hb
          refine Ch.of1 (x := p) (fun a o e hb => ?_) (fun a h => ?_) (fun a o hb e => ?_) ⟨_, upd_same⟩
          rotate_left 2
          · have e' := e3 a o e hb
            rw [upd_ne hb, upd_ne (ne_of_none e' hfr1), upd_ne hb, upd_ne (ne_of_none e' hrw)]
            exact e'
          · have e' := e3 a o e hb
            rw [upd_ne hb, upd_ne (ne_of_none e' hfr1), upd_ne hb, upd_ne (ne_of_none e' hrw)]
            exact e'
          · rcases h with h | rfl | rfl | rfl
            · exact .inl h
            · exact .inr hsp0
            · by_cases z : a = p
              · exact .inl z
              · right
                cases q : H a with
                | none => rfl
                | some o =>
                  rw [e3 a o q z] at hrw
                  cases hrw
            · by_cases z : a = p
              · exact .inl z
              · right
                cases q : H a with
                | none => rfl
                | some o =>
                  rw [e3 a o q z] at hfr1
                  cases hfr1
    · have ke := kE h1
      refine ⟨_, rfl, _, _, rfl, rfl, _, rfl, ?_⟩
      by_cases b1 : 2 ≤ S
      · refine ifT b1 ⟨_, _, rfl, rfl, _, rfl, ?_⟩
        by_cases b2 : S ≤ 64
        · refine ifNF b2 ⟨_, rfl, _, _, rfl, rfl, _, rfl, ?_⟩
          by_cases b3 : 1 ≤ l
          · refine ifT b3 ⟨_, _, rfl, rfl, _, rfl, ?_⟩
            exact ifNT (fun b4 => h1 ⟨b1, b2, b3, b4⟩) ke
          · refine ifF b3 ⟨_, rfl, ?_⟩
            exact ifB rfl ke
        · refine ifNT b2 ?_
          exact ifB rfl ke
      · refine ifF b1 ⟨_, rfl, ?_⟩
        refine ifB rfl ?_
        exact ifB rfl ke
end
end L2.TK
set_option Elab.async false
set_option linter.all false
set_option maxRecDepth 100000
set_option maxHeartbeats 2000000
namespace L2.TK
open PySem TkM
/-- good wheels -/
structure WS (S : Int) (L : Nat) : Prop where
  s2 : 2 ≤ S
  s64 : S ≤ 64
  l1 : 1 ≤ L
  l6 : L ≤ 6
theorem WS.pos {S : Int} {L : Nat} (h : WS S L) : 0 < S := by have := h.s2; omega
theorem WS.lpos {S : Int} {L : Nat} (h : WS S L) : 0 < L := h.l1
def spPlace (CW : Addr) : Sp := fun vs H Q _ => ∃ (A : WA) (F : Addr → Prop) (S : Int) (L : Nat) (R : Int × Int → List (Int × Int)) (far : List (Int × Int)) (now due : Int), vs = [.ref A.x, .int now, .int due] ∧ WAt CW H F A S L R far ∧ WS S L ∧
  (place S L now due = none → Q .non H) ∧ (∀ k, place S L now due = some k → ∀ p, H p = none → Q (.ref p) (upd H p (.tup [.int k.1, .int k.2])))
section
variable {P : Program} {w : World} {K : PySem.W.Frag} {mg : Str → Option Value} {base : Heap} {CW CA CB CT CBad CPast CNot : Addr}
theorem scPlace : FnScope ["self", "now", "due", "level"] ["self", "now", "due"] (defScope sWheels_place) := ⟨rfl, rfl, rfl, by decide +kernel, rfl, by decide +kernel, by decide +kernel⟩
theorem ok_Place {f : Addr} {fd : FuncData} (F : Fun K "place" "Wheels.place" sWheels_place f fd) (T : Txt K mg CW CA CB CT CBad CPast CNot) : FnOk P w K mg base CX0 1 f fd ["self", "now", "due"] (spPlace CW) := by
  refine F.ok scPlace (fun vs H Q E h => ?_) (fun cdv A outer s H vs Q E hr h => ?_)
  · obtain ⟨A, F, S, L, R, far, now, due, rfl, _⟩ := h
    rfl
  · obtain ⟨A, F, S, L, R, far, now, due, rfl, W, B, kN, kS⟩ := h
    refine ⟨_, pss_cons (ps_for PassesOwn.never rfl (pi_range1 rfl T.range (pa_cons (pe_fld (pv 0) rfl) pa_nil)) (pg_name (i := 3) scPlace.nd rfl (Or.inl rfl))
        (pss_one (ps_if (pt_cmpR op_eq (pe_op op_fdivW (pv 2) (pe_ix ix_list (pe_fld (pv 0) rfl) (pe_op op_add (pv 3) pe_int) (fun _ _ => rfl))) (pe_op op_fdivW (pv 1) (pe_ix ix_list (pe_fld (pv 0) rfl) (pe_op op_add (pv 3) pe_int) (fun _ _ => rfl))) (nomark _))
          (pss_one (ps_ret (pe_tup (pa_cons (pv 3) (pa_cons (pe_op op_modN (pe_op op_fdivW (pv 2) (pe_ix ix_list (pe_fld (pv 0) rfl) (pv 3) (fun _ _ => rfl))) (pe_fld (pv 0) rfl)) pa_nil))))) pss_nil)))
      (pss_one (ps_ret pe_non)), ?_⟩
    have b1 := B.s2
    have b2 := B.s64
    have b3 := B.l1
    have b4 := B.l6
    refine ⟨_, rfl, A.x, CW, A.dx, _, _, rfl, W.ob, T.clW, T.wLevels, wf_levels, L, rfl, by omega, by omega, for_range (lo := 0) (n := (L : Int).toNat) (fun i sg H' => H' = H ∧ (∃ v, sg = [some (.ref A.x), some (.int now), some (.int due), v]) ∧ ∀ j, j < i → Qt S (j + 1) due ≠ Qt S (j + 1) now) ⟨rfl, ⟨none, rfl⟩, fun j hj => absurd hj (Nat.not_lt_zero j)⟩ ?_ ?_⟩
    · rintro i sg H' hi ⟨rfl, ⟨v, rfl⟩, hn⟩
      have hi' : i < L := by simpa using hi
      obtain ⟨p1, p2⟩ := pow_small (i := i + 1) b1 b2 (by omega)
      obtain ⟨p3, p4⟩ := pow_small (i := i) b1 b2 (by omega)
      refine ⟨_, rfl, _, rfl, A.x, CW, A.dx, _, _, rfl, W.ob, T.clW, T.wSpans, wf_spans, _, rfl, _, _, rfl, rfl, A.sp, _, _, _, rfl, rfl, SqL.of W.sp, at_of (by simp) (spans_get (l := i + 1) (by omega)), _, _, rfl, rfl, wdiv p1 p2, ?_⟩
      refine ⟨_, rfl, _, rfl, A.x, CW, A.dx, _, _, rfl, W.ob, T.clW, T.wSpans, wf_spans, _, rfl, _, _, rfl, rfl, A.sp, _, _, _, rfl, rfl, SqL.of W.sp, at_of (by simp) (spans_get (l := i + 1) (by omega)), _, _, rfl, rfl, wdiv p1 p2, ?_⟩
      refine ⟨rfl, _, rfl, if2 (fun c => ?_) fun c => ?_⟩
      · have c' : Qt S (i + 1) due = Qt S (i + 1) now := V.int.inj c
        refine ⟨_, rfl, _, rfl, _, rfl, A.x, CW, A.dx, _, _, rfl, W.ob, T.clW, T.wSpans, wf_spans, _, rfl, A.sp, _, _, _, rfl, rfl, SqL.of W.sp, at_of (by simp) (spans_get (l := i) (by omega)), _, _, rfl, rfl, wdiv p3 p4, _, rfl, A.x, CW, A.dx, _, _, rfl, W.ob, T.clW, T.wSlots, wf_slots, _, _, rfl, rfl, by omega, (by show 2 ≤ sizeLine; decide), fun p hp => ?_⟩
        have := kS _ (place_some (L := L) hi' c' hn) p hp
        show Q (.ref p) (upd H' p (.tup [.int (0 + (i : Int)), .int ((due / S ^ i).fmod S)]))
        rw [fmodP (by omega), Int.zero_add]
        exact this
      · refine ⟨rfl, ⟨_, rfl⟩, fun j hj => ?_⟩
        by_cases e : j = i
        · subst e
          exact fun z => c (congrArg V.int z)
        · exact hn j (by omega)
    · rintro sg H' ⟨rfl, ⟨v, rfl⟩, hn⟩
      exact kN (place_none fun j hj => hn j (by simpa using hj))
end
end L2.TK
set_option Elab.async false
set_option linter.all false
set_option maxRecDepth 100000
set_option maxHeartbeats 2000000
namespace L2.TK
open PySem TkM
def spPut (CW : Addr) : Sp := fun vs H Q _ => ∃ (A : WA) (F : Addr → Prop) (S : Int) (L : Nat) (R : Int × Int → List (Int × Int)) (far : List (Int × Int)) (now due num : Int), vs = [.ref A.x, .int now, .int due, .int num] ∧ WAt CW H F A S L R far ∧ WS S L ∧
  (∀ k, (R k).length ≤ 1000) ∧ far.length ≤ 1000 ∧
  ∀ (A' : WA) (F' : Addr → Prop) (H' : Hp), A'.x = A.x → WAt CW H' F' A' S L (putR S L now R far (due, num)).1 (putR S L now R far (due, num)).2 → Ch F F' H H' → Q .non H'
section
variable {P : Program} {w : World} {K : PySem.W.Frag} {mg : Str → Option Value} {base : Heap} {CW CA CB CT CBad CPast CNot : Addr}
theorem scPut : FnScope ["self", "now", "due", "number", "place"] ["self", "now", "due", "number"] (defScope sWheels_put) := ⟨rfl, rfl, rfl, by decide +kernel, rfl, by decide +kernel, by decide +kernel⟩
theorem ok_Put {f : Addr} {fd : FuncData} (F : Fun K "put" "Wheels.put" sWheels_put f fd) (T : Txt K mg CW CA CB CT CBad CPast CNot) (GP : GMe P w K mg base CX0 1 CW "place" ["self", "now", "due"] (spPlace CW)) :
    FnOk P w K mg base CX0 2 f fd ["self", "now", "due", "number"] (spPut CW) := by
  obtain ⟨fP, fdP, mP, bP, GP⟩ := GP
  refine F.ok scPut (fun vs H Q E h => ?_) (fun cdv A outer s H vs Q E hr h => ?_)
  · obtain ⟨A, F, S, L, R, far, now, due, num, rfl, _⟩ := h
    rfl
  · obtain ⟨A, F, S, L, R, far, now, due, num, rfl, W, B, hR, hF, k⟩ := h
    have hu := hu_of hr
    refine ⟨_, pss_cons (ps_set (i := 4) scPut.nd rfl (Or.inl rfl) (pe_meth (pv 0) T.clW mP GP hr bP .nil pass0 (pa_cons (pv 1) (pa_cons (pv 2) pa_nil))))
      (pss_one (ps_if (pt_cmpR op_isN (pv 4) pe_non (nomark _))
        (pss_one (ps_expr (pe_bm PySem.F.plainAttrs_list PySem.F.slot_list_append PySem.F.type_list_append mt_append (pe_fld (pv 0) rfl) (pa_cons (pe_tup (pa_cons (pv 2) (pa_cons (pv 3) pa_nil))) pa_nil))))
        (pss_one (ps_expr (pe_bm PySem.F.plainAttrs_list PySem.F.slot_list_append PySem.F.type_list_append mt_append
          (pe_bm PySem.F.plainAttrs_dict PySem.F.slot_dict_setdefault PySem.F.type_dict_setdefault (mt_setdT hu) (pe_fld (pv 0) rfl) (pa_cons (pv 4) (pa_cons (pe_lst pa_nil) pa_nil)))
          (pa_cons (pe_tup (pa_cons (pv 2) (pa_cons (pv 3) pa_nil))) pa_nil)))))), ?_⟩
    refine ⟨_, rfl, A.x, A.dx, _, rfl, W.ob, rfl, _, rfl, _, rfl, A, F, S, L, R, far, now, due, rfl, W, B, fun hn => ?_, fun kk hk p hp => ?_⟩
    · -- none
      obtain ⟨ts, t1, t2⟩ := W.fr
      refine ⟨_, rfl, rfl, _, rfl, ifT rfl ?_⟩
      refine ⟨_, rfl, A.x, CW, A.dx, _, _, rfl, W.ob, T.clW, T.wFar, wf_far, .inl ⟨rfl, _, SqL.of t1⟩, _, rfl, _, rfl, (by show 2 ≤ sizeLine; decide), fun q hq => ?_⟩
      have sq : Same H (upd H q (.tup [.int due, .int num])) := Same.new hq
      refine ⟨A.fr, _, _, rfl, rfl, sq _ _ t1, small1000 (by rw [List.length_map, TsAt.len t2]; exact hF), ?_⟩
      have W1 := (W.same sq).farPut (p := (due, num)) (sq _ _ t1) (TsAt.on (F := F) t2 (On.same sq)) upd_same
      have kk := k A F _ rfl (by rw [putR_none hn]; exact W1) (Ch.upd W.ffr sq)
      have e2 : (ts ++ [q]).map V.ref = ts.map V.ref ++ [V.ref q] := by simp
      rw [e2] at kk
      exact kk
    · -- some slot
      have sp : Same H (upd H p (.tup [.int kk.1, .int kk.2])) := Same.new hp
      refine ⟨_, rfl, rfl, _, rfl, ifF (fun z => nomatch z) ?_⟩
      have W0 := W.same sp
      refine ⟨_, rfl, A.x, CW, A.dx, _, _, rfl, W0.ob, T.clW, T.wRows, wf_rows, .inr (.inr (.inl ⟨rfl, .inr ⟨_, W0.rw⟩⟩)), _, rfl, Nat.zero_le _, fun b hb => ?_⟩
      have sb : Same (upd H p (.tup [.int kk.1, .int kk.2])) (upd (upd H p (.tup [.int kk.1, .int kk.2])) b (.lst [])) := Same.new hb
      have W1 := W0.same sb
      refine ⟨A.rw, p, A.kvs, pairK kk, _, rfl, rfl, W1.rw, sb _ _ upd_same, few_room (W.few B.l6 B.s64), fun v hv => ?_, fun hv => ?_⟩
      · -- there
        by_cases hk0 : R kk = []
        · rw [W.no kk hk0] at hv
          cases hv
        obtain ⟨y1, ⟨ts, t1, t2⟩, y3, y4, y5⟩ := W1.yes kk hk0
        rw [y1] at hv
        cases hv
        refine ⟨.inl ⟨rfl, _, SqL.of t1⟩, _, rfl, _, rfl, (by show 2 ≤ sizeLine; decide), fun q hq => ?_⟩
        have sq := Same.new (o := .tup [.int due, .int num]) hq
        refine ⟨A.ad kk, _, _, rfl, rfl, sq _ _ t1, small1000 (by rw [List.length_map, TsAt.len t2]; exact hR kk), ?_⟩
        have W2 := (W1.same sq).rowOld (p := (due, num)) hk0 (sq _ _ t1) (TsAt.on (F := F) t2 (On.same sq)) upd_same
        have kq := k A F _ rfl (by rw [putR_some hk]; exact W2) (Ch.upd y3 ((sp.trans sb).trans sq))
        have e2 : (ts ++ [q]).map V.ref = ts.map V.ref ++ [V.ref q] := by simp
        rw [e2] at kq
        exact kq
      · -- new
        by_cases hk0 : R kk = []
        · have nbr : b ≠ A.rw := (ne_of_none W0.rw hb).symm
          have hb0 : H b = none := by
            cases q : H b with
            | none => rfl
            | some o =>
              rw [sp b o q] at hb
              cases hb
          refine ⟨.inl ⟨rfl, _, SqL.of ((upd_ne nbr).trans upd_same)⟩, _, rfl, _, rfl, (by show 2 ≤ sizeLine; decide), fun q hq => ?_⟩
          have sq := Same.new (o := .tup [.int due, .int num]) hq
          have hb2 := sq _ _ ((upd_ne nbr).trans upd_same)
          refine ⟨b, _, _, rfl, rfl, hb2, small1000 (by decide), ?_⟩
          have hr2 := sq _ _ (upd_same (H := upd (upd H p (.tup [.int kk.1, .int kk.2])) b (.lst [])) (a := A.rw) (o := .dT (putK A.kvs (pairK kk) (.ref b))))
          have nqb : q ≠ b := (ne_of_none ((upd_ne nbr).trans upd_same) hq).symm
          have nqr : q ≠ A.rw := (ne_of_none upd_same hq).symm
          have on : ∀ a o, a ≠ A.rw → H a = some o → upd (upd (upd (upd (upd H p (.tup [.int kk.1, .int kk.2])) b (.lst [])) A.rw (.dT (putK A.kvs (pairK kk) (.ref b)))) q (.tup [.int due, .int num])) b (.lst ([] ++ [.ref q])) a = some o := fun a o n e => by
            rw [upd_ne (ne_of_none e hb0)]
            refine sq a o ?_
            rw [upd_ne n]
            exact sb a o (sp a o e)
          have W2 := W.rowNew (p := (due, num)) (b := b) (q := q) hk0 (place_slot B.pos hk) hb0 (by rw [upd_ne nbr.symm]; exact hr2) upd_same (by rw [upd_ne nqb]; exact upd_same) on
          refine k { A with ad := fun j => if j = kk then b else A.ad j, kvs := putK A.kvs (pairK kk) (.ref b) } (fun a => F a ∨ a = b) _ rfl (by rw [putR_some hk]; exact W2) (Ch.of1 (x := A.rw) (fun a o e n => on a o (fun z => n (z ▸ W.frw)) e) (fun a h => ?_) on ⟨_, by rw [upd_ne nbr.symm]; exact hr2⟩)
          rcases h with h | h
          · exact .inl h
          · exact .inr (h ▸ hb0)
        · rw [(W.yes kk hk0).1] at hv
          cases hv
end
end L2.TK
set_option Elab.async false
set_option linter.all false
set_option maxRecDepth 100000
set_option maxHeartbeats 2000000
namespace L2.TK
open PySem TkM
/-- what soonest tells of the pairs that wait -/
def SoonV (W : Int × Int → Prop) (Q : VK) (H : Hp) : Prop := ((∀ p, ¬ W p) → Q .non H) ∧ ∀ d n, W (d, n) → (∀ p, W p → d ≤ p.1) → Q (.int d) H
def spSoonest (CW : Addr) : Sp := fun vs H Q _ => ∃ (A : WA) (F : Addr → Prop) (S : Int) (L : Nat) (R : Int × Int → List (Int × Int)) (far : List (Int × Int)) (now : Int) (Wp : Int × Int → Prop), vs = [.ref A.x, .int now] ∧ WAt CW H F A S L R far ∧ WS S L ∧
  Good S L now R far Wp ∧ (∀ p, Wp p → now < p.1) ∧ ∀ H', Same H H' → SoonV Wp Q H'
section
variable {P : Program} {w : World} {K : PySem.W.Frag} {mg : Str → Option Value} {base : Heap} {CW CA CB CT CBad CPast CNot : Addr}
theorem scSoonest : FnScope ["self", "now", "level", "first", "slot"] ["self", "now"] (defScope sWheels_soonest) := ⟨rfl, rfl, rfl, by decide +kernel, rfl, by decide +kernel, by decide +kernel⟩
theorem ok_Soonest {f : Addr} {fd : FuncData} (F : Fun K "soonest" "Wheels.soonest" sWheels_soonest f fd) (T : Txt K mg CW CA CB CT CBad CPast CNot) :
    FnOk P w K mg base CX0 1 f fd ["self", "now"] (spSoonest CW) := by
  refine F.ok scSoonest (fun vs H Q E h => ?_) (fun cdv A outer s H vs Q E hr h => ?_)
  · obtain ⟨A, F, S, L, R, far, now, Wp, rfl, _⟩ := h
    rfl
  · obtain ⟨A, F, S, L, R, far, now, Wp, rfl, W, B, G, ha, k⟩ := h
    have hu := hu_of hr
    have hu2 := room2 hr
    have b1 := B.s2
    have b2 := B.s64
    have b3 := B.l1
    have b4 := B.l6
    have hS := B.pos
    refine ⟨_, pss_cons (ps_for PassesOwn.never rfl (pi_range1 rfl T.range (pa_cons (pe_fld (pv 0) rfl) pa_nil)) (pg_name (i := 2) scSoonest.nd rfl (Or.inl rfl))
        (pss_cons (ps_set (i := 3) scSoonest.nd rfl (Or.inl rfl) (pe_op op_add (pe_op op_modN (pe_op op_fdivW (pv 1) (pe_ix ix_list (pe_fld (pv 0) rfl) (pv 2) (fun _ _ => rfl))) (pe_fld (pv 0) rfl)) pe_int))
          (pss_one (ps_for PassesOwn.never rfl (pi_range2 rfl T.range (pa_cons (pv 3) (pa_cons (pe_fld (pv 0) rfl) pa_nil))) (pg_name (i := 4) scSoonest.nd rfl (Or.inl rfl))
            (pss_one (ps_if (pt_cmp (pc_din hu (pe_tup (pa_cons (pv 2) (pa_cons (pv 4) pa_nil))) (pe_fld (pv 0) rfl)))
              (pss_one (ps_ret (pe_ix ix_tup (pe_callB (cr_minD (A := Int × Int) rfl hu2) (by rfl) T.min (by decide +kernel) (pa_cons (pe_dget hu (pe_fld (pv 0) rfl) (pe_tup (pa_cons (pv 2) (pa_cons (pv 4) pa_nil))) (fun _ _ => rfl)) pa_nil)) pe_int (fun _ _ => rfl)))) pss_nil))))))
      (pss_cons (ps_if (pt_truth (pe_fld (pv 0) rfl) (by intro _; rfl)) (pss_one (ps_ret (pe_ix ix_tup (pe_callB (cr_minD (A := Int × Int) rfl hu2) (by rfl) T.min (by decide +kernel) (pa_cons (pe_fld (pv 0) rfl) pa_nil)) pe_int (fun _ _ => rfl)))) pss_nil)
      (pss_one (ps_ret pe_non))), ?_⟩
    refine ⟨_, rfl, A.x, CW, A.dx, _, _, rfl, W.ob, T.clW, T.wLevels, wf_levels, L, rfl, by omega, by omega, for_range (lo := 0) (n := (L : Int).toNat) (fun i sg H' => Same H H' ∧ (∃ v2 v3 v4, sg = [some (.ref A.x), some (.int now), v2, v3, v4]) ∧
      ∀ (j : Nat) (t : Int), j < i → Qt S j now % S < t → t < S → R ((j : Int), t) = []) ⟨Same.refl H, ⟨none, none, none, rfl⟩, fun j t hj => absurd hj (Nat.not_lt_zero j)⟩ ?_ ?_⟩
    · rintro i sg H1 hi ⟨s1, ⟨v2, v3, v4, rfl⟩, seen⟩
      have hi' : i < L := by simpa using hi
      obtain ⟨p3, p4⟩ := pow_small (i := i) b1 b2 (by omega)
      have W1 := W.same s1
      refine ⟨_, rfl, _, rfl, A.x, CW, A.dx, _, _, rfl, W1.ob, T.clW, T.wSpans, wf_spans, _, rfl, A.sp, _, _, _, rfl, rfl, SqL.of W1.sp, at_of (by simp) (spans_get (l := i) (by omega)), _, _, rfl, rfl, wdiv p3 p4, _, rfl, A.x, CW, A.dx, _, _, rfl, W1.ob, T.clW, T.wSlots, wf_slots, _, _, rfl, rfl, by omega, _, _, rfl, rfl, ?_⟩
      have ef : (now / S ^ i).fmod S = Qt S i now % S := fmodP hS
      have m1 : 0 ≤ Qt S i now % S := Int.emod_nonneg _ (by omega)
      have m2 : Qt S i now % S < S := Int.emod_lt_of_pos _ hS
      have bd : -(2 ^ 62) ≤ (now / S ^ i).fmod S + 1 ∧ (now / S ^ i).fmod S + 1 < 2 ^ 62 ∧ -(2 ^ 62) ≤ S ∧ S < 2 ^ 62 := by omega
      refine ⟨_, rfl, _, rfl, A.x, CW, A.dx, _, _, rfl, W1.ob, T.clW, T.wSlots, wf_slots, _, _, rfl, bd, for_range (lo := (now / S ^ i).fmod S + 1) (n := (S - ((now / S ^ i).fmod S + 1)).toNat)
        (fun m sg H' => Same H H' ∧ (∃ v, sg = [some (.ref A.x), some (.int now), some (.int (0 + (i : Int))), some (.int ((now / S ^ i).fmod S + 1)), v]) ∧ ∀ t : Int, Qt S i now % S < t → t < Qt S i now % S + 1 + m → R ((i : Int), t) = []) ⟨s1, ⟨_, rfl⟩, fun t h1 h2 => absurd h2 (by omega)⟩ ?_ ?_⟩
      · rintro m sg H2 hm ⟨s2, ⟨v, rfl⟩, here⟩
        have W2 := W.same s2
        refine ⟨_, rfl, _, rfl, (by show 2 ≤ sizeLine; decide), fun t ht => ?_⟩
        have s3 := s2.trans (Same.new (o := .tup [.int (0 + (i : Int)), .int ((now / S ^ i).fmod S + 1 + (m : Int))]) ht)
        have W3 := W.same s3
        have et : (upd H2 t (.tup [.int (0 + (i : Int)), .int ((now / S ^ i).fmod S + 1 + (m : Int))])) t = some (.tup ((pairK ((i : Int), Qt S i now % S + 1 + (m : Int))).map kV)) := by
          rw [upd_same, pairK_map, Int.zero_add, ef]
        refine ⟨_, rfl, A.x, CW, A.dx, _, _, rfl, W3.ob, T.clW, T.wRows, wf_rows, A.rw, _, rfl, DGet.t W3.rw et, _, rfl, ?_⟩
        by_cases hk : R ((i : Int), Qt S i now % S + 1 + (m : Int)) = []
        · rw [W.no _ hk]
          refine iteF ⟨s3, ⟨_, rfl⟩, fun t' h1 h2 => ?_⟩
          by_cases e : t' = Qt S i now % S + 1 + (m : Int)
          · rw [e]
            exact hk
          · exact here t' h1 (by omega)
        · rw [(W.yes _ hk).1]
          refine iteT ?_
          refine ⟨_, rfl, A.x, CW, A.dx, _, _, rfl, W3.ob, T.clW, T.wRows, wf_rows, _, rfl, _, rfl, (by show 2 ≤ sizeLine; decide), fun u hu' => ?_⟩
          have s4 := s3.trans (Same.new (o := .tup [.int (0 + (i : Int)), .int ((now / S ^ i).fmod S + 1 + (m : Int))]) hu')
          have W4 := W.same s4
          have eu : (upd (upd H2 t (.tup [.int (0 + (i : Int)), .int ((now / S ^ i).fmod S + 1 + (m : Int))])) u (.tup [.int (0 + (i : Int)), .int ((now / S ^ i).fmod S + 1 + (m : Int))])) u = some (.tup ((pairK ((i : Int), Qt S i now % S + 1 + (m : Int))).map kV)) := by
            rw [upd_same, pairK_map, Int.zero_add, ef]
          obtain ⟨y1, ⟨ts, t1, t2⟩, _⟩ := W4.yes _ hk
          refine ⟨A.rw, _, rfl, by rw [← y1]; exact DGet.t W4.rw eu, ?_⟩
          cases hl : R ((i : Int), Qt S i now % S + 1 + (m : Int)) with
          | nil => exact absurd hl hk
          | cons x xs =>
            rw [hl] at t2
            refine ⟨_, _, x, xs, rfl, SqL.of t1, TsAt.hd t2, fun j v hj hm' => ?_⟩
            obtain ⟨tt, rfl, htt⟩ := min_at t2 hj hm'
            obtain ⟨mn1, mn2⟩ := min_fold xs x
            refine ⟨tt, _, _, _, rfl, rfl, SqT.of htt, at_of (j := 0) rfl rfl, ?_⟩
            have hmem : PySem.W.minOf x xs ∈ R ((i : Int), Qt S i now % S + 1 + (m : Int)) := by
              rw [hl]
              exact mn1
            obtain ⟨wm, _⟩ := (G.row _ _).mp hmem
            refine (k _ s4).2 _ _ wm fun p hp => ?_
            by_cases hin : p ∈ R ((i : Int), Qt S i now % S + 1 + (m : Int))
            · rw [hl] at hin
              have := mn2 p hin
              omega
            · exact Int.le_of_lt (soon_row hS G ha hi' ⟨fun j t h1 h2 h3 => seen j t h1 h2 h3, fun t h1 h2 => here t h1 h2⟩ hmem hp hin)
      · rintro sg H2 ⟨s2, ⟨v, rfl⟩, here⟩
        refine ⟨s2, ⟨_, _, _, rfl⟩, fun j t hj h1 h2 => ?_⟩
        by_cases e : j = i
        · subst e
          exact here t h1 (by omega)
        · exact seen j t (by omega) h1 h2
    · rintro sg H1 ⟨s1, ⟨v2, v3, v4, rfl⟩, seen⟩
      have W1 := W.same s1
      obtain ⟨ts, t1, t2⟩ := W1.fr
      have all : ∀ q, Wp q → q ∈ far := fun q hq => soon_far hS G ha (fun j t hj h1 h2 => seen j t (by simpa using hj) h1 h2) hq
      refine ⟨_, rfl, A.x, CW, A.dx, _, _, rfl, W1.ob, T.clW, T.wFar, wf_far, _, .inl ⟨_, SqL.of t1, rfl⟩, ?_⟩
      cases hl : far with
      | nil =>
        rw [hl] at t2 all
        cases t2
        refine iteF ?_
        exact (k H1 s1).1 fun p hp => (nomatch all p hp)
      | cons x xs =>
        rw [hl] at t2
        have e0 : (!(ts.map V.ref).isEmpty) = true := by
          cases t2
          rfl
        refine ifB e0 ?_
        refine ⟨_, rfl, A.x, CW, A.dx, _, _, rfl, W1.ob, T.clW, T.wFar, wf_far, _, _, x, xs, rfl, SqL.of t1, TsAt.hd t2, fun j v hj hm' => ?_⟩
        obtain ⟨tt, rfl, htt⟩ := min_at t2 hj hm'
        obtain ⟨mn1, mn2⟩ := min_fold xs x
        refine ⟨tt, _, _, _, rfl, rfl, SqT.of htt, at_of (j := 0) rfl rfl, ?_⟩
        have hmem : PySem.W.minOf x xs ∈ far := by
          rw [hl]
          exact mn1
        obtain ⟨wm, _⟩ := (G.fr _).mp hmem
        refine (k _ s1).2 _ _ wm fun p hp => ?_
        have hin := all p hp
        rw [hl] at hin
        have := mn2 p hin
        omega
end
end L2.TK
set_option Elab.async false
set_option linter.all false
set_option maxRecDepth 100000
set_option maxHeartbeats 4000000
namespace L2.TK
open PySem TkM
def spTurn (CW : Addr) : Sp := fun vs H Q _ => ∃ (A : WA) (F : Addr → Prop) (S : Int) (L : Nat) (R : Int × Int → List (Int × Int)) (far : List (Int × Int)) (now t : Int) (Wp : Int × Int → Prop), vs = [.ref A.x, .int now, .int t] ∧ WAt CW H F A S L R far ∧ WS S L ∧
  Good S L now R far Wp ∧ now ≤ t ∧ (∀ p, Wp p → t ≤ p.1) ∧ Few Wp ∧
  ∀ (A' : WA) (F' : Addr → Prop) (H' : Hp) (R' : Int × Int → List (Int × Int)) (far' : List (Int × Int)), A'.x = A.x → WAt CW H' F' A' S L R' far' → Good S L t R' far' Wp → Ch F F' H H' → Q .non H'
/-- between two turns of the loop over the levels: levels b and above are done -/
def TurnI (CW : Addr) (H : Hp) (F : Addr → Prop) (x : Addr) (S : Int) (L : Nat) (R : Int × Int → List (Int × Int)) (far1 : List (Int × Int)) (now t : Int) (Wp : Int × Int → Prop) (b : Nat) (sg : St) (H' : Hp) : Prop :=
  ∃ (A' : WA) (F' : Addr → Prop) (R' : Int × Int → List (Int × Int)) (q : Addr) (ag : List (Int × Int)) (v4 v5 v6 v7 : Option V), sg = [some (.ref x), some (.int now), some (.int t), some (.ref q), v4, v5, v6, v7] ∧
    A'.x = x ∧ WAt CW H' F' A' S L R' far1 ∧ PL H' q ag ∧ ¬ F' q ∧ Ch F F' H H' ∧ (∀ k, OutF S L now t b k → R' k = []) ∧ (∀ k, ¬ OutF S L now t b k → R' k = R k) ∧ ag.Nodup ∧ ∀ p, p ∈ ag ↔ AgM S L now t Wp b p
section
variable {P : Program} {w : World} {K : PySem.W.Frag} {mg : Str → Option Value} {base : Heap} {CW CA CB CT CBad CPast CNot : Addr}
theorem scTurn : FnScope ["self", "now", "then", "again", "level", "slot", "due", "number"] ["self", "now", "then"] (defScope sWheels_turn) := ⟨rfl, rfl, rfl, by decide +kernel, rfl, by decide +kernel, by decide +kernel⟩
theorem ok_Turn {f : Addr} {fd : FuncData} (F : Fun K "turn" "Wheels.turn" sWheels_turn f fd) (T : Txt K mg CW CA CB CT CBad CPast CNot) (GP : GMe P w K mg base CX0 2 CW "put" ["self", "now", "due", "number"] (spPut CW)) :
    FnOk P w K mg base CX0 3 f fd ["self", "now", "then"] (spTurn CW) := by
  obtain ⟨fP, fdP, mP, bP, GP⟩ := GP
  refine F.ok scTurn (fun vs H Q E h => ?_) (fun cdv A outer s H vs Q E hr h => ?_)
  · obtain ⟨A, F, S, L, R, far, now, t, Wp, rfl, _⟩ := h
    rfl
  · obtain ⟨A, F, S, L, R, far, now, t, Wp, rfl, W, B, G, h1, h2, few, k⟩ := h
    have hu := hu_of hr
    have b1 := B.s2
    have b2 := B.s64
    have b3 := B.l1
    have b4 := B.l6
    have hS := B.pos
    refine ⟨_, pss_cons (ps_set (i := 3) scTurn.nd rfl (Or.inl rfl) (pe_lst pa_nil))
      (C8.pss_cut (ps_if (pt_cmpR op_ne (pe_op op_fdivW (pv 1) (pe_ix ix_list (pe_fld (pv 0) rfl) (pe_fld (pv 0) rfl) (fun _ _ => rfl))) (pe_op op_fdivW (pv 2) (pe_ix ix_list (pe_fld (pv 0) rfl) (pe_fld (pv 0) rfl) (fun _ _ => rfl))) (nomark _))
        (pss_cons (ps_set (i := 3) scTurn.nd rfl (Or.inl rfl) (pe_fld (pv 0) rfl)) (pss_one (ps_fld (pv 0) (pe_lst pa_nil) rfl))) pss_nil)
      (pss_cons (ps_for PassesOwn.never rfl (pi_revR rfl T.reversed (prg_2 rfl T.range pe_int (pe_fld (pv 0) rfl))) (pg_name (i := 4) scTurn.nd rfl (Or.inl rfl))
        (pss_one (ps_if (pt_cmpR op_ne (pe_op op_fdivW (pv 1) (pe_ix ix_list (pe_fld (pv 0) rfl) (pv 4) (fun _ _ => rfl))) (pe_op op_fdivW (pv 2) (pe_ix ix_list (pe_fld (pv 0) rfl) (pv 4) (fun _ _ => rfl))) (nomark _))
          (pss_cons (ps_set (i := 5) scTurn.nd rfl (Or.inl rfl) (pe_op op_modN (pe_op op_fdivW (pv 2) (pe_ix ix_list (pe_fld (pv 0) rfl) (pv 4) (fun _ _ => rfl))) (pe_fld (pv 0) rfl)))
            (pss_one (ps_set (i := 3) scTurn.nd rfl (Or.inl rfl) (pe_op op_cat (pv 3) (pe_bm PySem.F.plainAttrs_dict PySem.F.slot_dict_pop PySem.F.type_dict_pop (DX.mt_popT hu) (pe_fld (pv 0) rfl) (pa_cons (pe_tup (pa_cons (pv 4) (pa_cons (pv 5) pa_nil))) (pa_cons (pe_lst pa_nil) pa_nil))))))) pss_nil)))
      (pss_one (ps_for PassesOwn.never rfl (pi_list (pv 3)) (pg_tup rfl (pgs_cons (pg_name (i := 6) scTurn.nd rfl (Or.inl rfl)) (pgs_cons (pg_name (i := 7) scTurn.nd rfl (Or.inl rfl)) pgs_nil)))
        (pss_one (ps_expr (pe_meth (pv 0) T.clW mP GP hr bP .nil pass0 (pa_cons (pv 2) (pa_cons (pv 6) (pa_cons (pv 7) pa_nil)))))))))), ?_⟩
    obtain ⟨p1, p2⟩ := pow_small (i := L) b1 b2 (by omega)
    refine ⟨Nat.zero_le _, fun l0 hl0 => ?_⟩
    have s0 : Same H (upd H l0 (.lst [])) := Same.new hl0
    have W0 := W.same s0
    refine ⟨TurnI CW H F A.x S L R (if Qt S L now = Qt S L t then far else []) now t Wp L, ?_, ?_⟩
    · refine ⟨_, rfl, _, rfl, A.x, CW, A.dx, _, _, rfl, W0.ob, T.clW, T.wSpans, wf_spans, _, rfl, A.x, CW, A.dx, _, _, rfl, W0.ob, T.clW, T.wLevels, wf_levels, A.sp, _, _, _, rfl, rfl, SqL.of W0.sp, at_of rfl (spans_get (l := L) (by omega)), _, _, rfl, rfl, wdiv p1 p2, ?_⟩
      refine ⟨_, rfl, _, rfl, A.x, CW, A.dx, _, _, rfl, W0.ob, T.clW, T.wSpans, wf_spans, _, rfl, A.x, CW, A.dx, _, _, rfl, W0.ob, T.clW, T.wLevels, wf_levels, A.sp, _, _, _, rfl, rfl, SqL.of W0.sp, at_of rfl (spans_get (l := L) (by omega)), _, _, rfl, rfl, wdiv p1 p2, ?_⟩
      refine ⟨rfl, _, rfl, ?_⟩
      by_cases c : Qt S L now = Qt S L t
      · refine ifNF (congrArg V.int c) ?_
        refine ⟨A, F, R, l0, [], _, _, _, _, rfl, rfl, by rw [if_pos c]; exact W0, ⟨[], upd_same, .nil⟩, fun z => ?_, Same.ch s0, fun k hk => absurd hk outF_top, fun k _ => rfl, List.nodup_nil, fun p => ?_⟩
        · have := W.own l0 z
          rw [hl0] at this
          exact this
        · rw [agM_top]
          exact ⟨fun z => (nomatch z), fun z => absurd c z.2.2⟩
      · refine ifNT (fun z => c (V.int.inj z)) ?_
        refine ⟨_, rfl, A.x, CW, A.dx, _, _, rfl, W0.ob, T.clW, T.wFar, wf_far, Nat.zero_le _, fun b hb => ?_⟩
        have nxb : A.x ≠ b := ne_of_none W0.ob hb
        refine ⟨_, rfl, A.x, CW, A.dx, _, rfl, by rw [upd_ne nxb]; exact W0.ob, T.clW, T.wFar, (by show 5 < 1000; decide), ?_⟩
        have W1 := W0.farNew hb nxb
        obtain ⟨fs, f1, f2⟩ := W0.fr
        have nfb : A.fr ≠ b := ne_of_none f1 hb
        have nfx : A.fr ≠ A.x := ne_of f1 W0.ob (by intro z; cases z)
        refine ⟨{ A with fr := b }, _, R, A.fr, far, _, _, _, _, rfl, rfl, by rw [if_neg c]; exact W1, ⟨fs, ?_, f2.keep fun a xs e => ?_⟩, fun z => ?_, Ch.of1 (x := A.x) (fun a o e n => ?_) (fun a z => ?_) (fun a o n e => ?_) ⟨_, upd_same⟩, fun k hk => absurd hk outF_top, fun k _ => rfl, G.ndf, fun p => ?_⟩
        · rw [upd_ne nfx, upd_ne nfb]
          exact f1
        · rw [upd_ne (ne_of e W0.ob (by intro z; cases z)), upd_ne (ne_of_none e hb)]
          exact e
        · rcases z with ⟨_, z⟩ | z
          · exact z rfl
          · exact nfb z
        · have e0 := s0 a o e
          rw [upd_ne (fun z => n (by rw [z]; exact W.fx)), upd_ne (ne_of_none e0 hb)]
          exact e0
        · rcases z with ⟨z, _⟩ | rfl
          · exact .inl z
          · right
            cases q : H a with
            | none => rfl
            | some o =>
              rw [s0 a o q] at hb
              cases hb
        · have e0 := s0 a o e
          rw [upd_ne n, upd_ne (ne_of_none e0 hb)]
          exact e0
        · rw [agM_top, G.fr]
          exact ⟨fun ⟨a, b⟩ => ⟨a, b, c⟩, fun ⟨a, b, _⟩ => ⟨a, b⟩⟩
    · -- the levels, from above
      rintro sg H1 ⟨A1, F1, R1, q1, ag1, v4, v5, v6, v7, rfl, ex1, W1, P1, nq1, C1, o1, o2, nd1, m1⟩
      have en : 1 + ((((L : Int) - 1).toNat : Nat) : Int) - 1 = (L : Int) - 1 := by omega
      refine ⟨_, rfl, A1.x, CW, A1.dx, _, _, by rw [ex1], W1.ob, T.clW, T.wLevels, wf_levels, _, _, rfl, rfl, by omega, by omega, by omega, by omega,
        for_rangeC (lo := 1 + ((((L : Int) - 1).toNat : Nat) : Int) - 1) (c := -1) (n := ((L : Int) - 1).toNat) (fun i sg H' => TurnI CW H F A.x S L R (if Qt S L now = Qt S L t then far else []) now t Wp (L - i) sg H') ?_ ?_ ?_⟩
      · exact ⟨A1, F1, R1, q1, ag1, v4, v5, v6, v7, rfl, ex1, W1, P1, nq1, C1, o1, o2, nd1, m1⟩
      · rintro i sg H2 hi ⟨A2, F2, R2, q2, ag2, v4, v5, v6, v7, rfl, ex2, W2, P2, nq2, C2, o1, o2, nd2, m2⟩
        obtain ⟨l, hl⟩ : ∃ l : Nat, l = L - (i + 1) := ⟨_, rfl⟩
        have hl1 : 1 ≤ l := by omega
        have hlL : l < L := by omega
        have hb : L - i = l + 1 := by omega
        have ev : 1 + ((((L : Int) - 1).toNat : Nat) : Int) - 1 + (i : Nat) * (-1) = (l : Int) := by omega
        rw [hb] at o1 o2 m2
        rw [← hl]
        obtain ⟨p3, p4⟩ := pow_small (i := l) b1 b2 (by omega)
        have W2b := W2.ob
        rw [ex2] at W2b
        refine ⟨_, rfl, _, rfl, A.x, CW, A2.dx, _, _, rfl, W2b, T.clW, T.wSpans, wf_spans, _, rfl, A2.sp, _, _, _, rfl, rfl, SqL.of W2.sp, at_of ev (spans_get (l := l) (by omega)), _, _, rfl, rfl, wdiv p3 p4, ?_⟩
        refine ⟨_, rfl, _, rfl, A.x, CW, A2.dx, _, _, rfl, W2b, T.clW, T.wSpans, wf_spans, _, rfl, A2.sp, _, _, _, rfl, rfl, SqL.of W2.sp, at_of ev (spans_get (l := l) (by omega)), _, _, rfl, rfl, wdiv p3 p4, ?_⟩
        refine ⟨rfl, _, rfl, ?_⟩
        by_cases c : Qt S l now = Qt S l t
        · refine ifNF (congrArg V.int c) ?_
          refine ⟨A2, F2, R2, q2, ag2, _, v5, v6, v7, rfl, ex2, W2, P2, nq2, C2, fun k hk => o1 k ?_, fun k hk => o2 k ?_, nd2, fun p => ?_⟩
          · rcases (outF_step hl1 hlL).mp hk with h | h
            · exact h
            · exact absurd c h.1
          · exact fun z => hk ((outF_step hl1 hlL).mpr (.inl z))
          · rw [m2, agM_step hl1 hlL]
            exact ⟨fun z => .inl z, fun z => z.elim id fun y => absurd c y.1⟩
        · refine ifNT (fun z => c (V.int.inj z)) ?_
          refine ⟨_, rfl, _, rfl, A.x, CW, A2.dx, _, _, rfl, W2b, T.clW, T.wSpans, wf_spans, _, rfl, A2.sp, _, _, _, rfl, rfl, SqL.of W2.sp, at_of ev (spans_get (l := l) (by omega)), _, _, rfl, rfl, wdiv p3 p4, ?_⟩
          refine ⟨_, rfl, A.x, CW, A2.dx, _, _, rfl, W2b, T.clW, T.wSlots, wf_slots, _, _, rfl, rfl, by omega, ?_⟩
          have es : (t / S ^ l).fmod S = Qt S l t % S := fmodP hS
          refine ⟨_, rfl, _, rfl, A.x, CW, A2.dx, _, _, rfl, W2b, T.clW, T.wRows, wf_rows, .inr (.inr (.inl ⟨rfl, .inr ⟨_, W2.rw⟩⟩)), ?_⟩
          refine ⟨_, rfl, _, rfl, (by show 2 ≤ sizeLine; decide), fun u hu' => ?_⟩
          have s3 : Same H2 (upd H2 u (.tup [.int (1 + ((((L : Int) - 1).toNat : Nat) : Int) - 1 + (i : Nat) * (-1)), .int ((t / S ^ l).fmod S)])) := Same.new hu'
          have eu : (upd H2 u (.tup [.int (1 + ((((L : Int) - 1).toNat : Nat) : Int) - 1 + (i : Nat) * (-1)), .int ((t / S ^ l).fmod S)])) u = some (.tup ((pairK ((l : Int), Qt S l t % S)).map kV)) := by
            rw [upd_same, pairK_map, ev, es]
          refine ⟨Nat.zero_le _, fun d hd => ?_⟩
          have s4 := s3.trans (Same.new (o := .lst []) hd)
          have W4 := W2.same s4
          obtain ⟨ts, t1, t2⟩ := P2
          have lag : ag2.length ≤ 1000 := few ag2 nd2 fun p hp => ((m2 p).mp hp).1
          have nq2' : ∀ G : Addr → Prop, (∀ a, G a → F2 a) → ¬ G q2 := fun G h z => nq2 (h _ z)
          have eu' := Same.new (o := .lst []) hd _ _ eu
          have hd0 : ∀ o, H2 d = some o → False := fun o e => by
            rw [s3 d o e] at hd
            cases hd
          have nout : ¬ OutF S L now t (l + 1) ((l : Int), Qt S l t % S) := fun ⟨j, _, a, _, _, e⟩ => by
            have := congrArg Prod.fst e
            simp only at this
            omega
          have eR : R2 ((l : Int), Qt S l t % S) = R ((l : Int), Qt S l t % S) := o2 _ nout
          refine ⟨A2.rw, A2.kvs, pairK ((l : Int), Qt S l t % S), u, .ref d, rfl, rfl, W4.rw, eu', fun v hv => ?_, fun hv => ?_⟩
          · -- there
            by_cases hk0 : R2 ((l : Int), Qt S l t % S) = []
            · rw [W2.no _ hk0] at hv
              cases hv
            obtain ⟨y1, ⟨us, u1, u2⟩, y3, y4, y5⟩ := W4.yes _ hk0
            rw [y1] at hv
            cases hv
            obtain ⟨H5, e5⟩ : ∃ H5, H5 = upd (upd (upd H2 u (.tup [.int (1 + ((((L : Int) - 1).toNat : Nat) : Int) - 1 + (i : Nat) * (-1)), .int ((t / S ^ l).fmod S)])) d (.lst [])) A2.rw (.dT (dropK A2.kvs (pairK ((l : Int), Qt S l t % S)))) := ⟨_, rfl⟩
            rw [← e5]
            have on5 : ∀ a o, a ≠ A2.rw → H2 a = some o → H5 a = some o := fun a o n e => by
              rw [e5, upd_ne n]
              exact s4 a o e
            have tk5 : ∀ a xs, H2 a = some (.tup xs) → H5 a = some (.tup xs) := fun a xs e => on5 a _ (ne_of e W2.rw (by intro z; cases z)) e
            have g1 : H5 q2 = some (.lst (ts.map V.ref)) := on5 _ _ (ne_of t1 W2.rw (by intro z; cases z)) t1
            obtain ⟨_, ⟨us', u1', u2'⟩, _⟩ := W2.yes _ hk0
            have g2 : H5 (A2.ad ((l : Int), Qt S l t % S)) = some (.lst (us'.map V.ref)) := on5 _ _ (ne_of u1' W2.rw (by intro z; cases z)) u1'
            have lR : (R2 ((l : Int), Qt S l t % S)).length ≤ 1000 := by
              rw [eR]
              exact (G.lens few).1 _
            refine ⟨q2, _, _, _, rfl, rfl, g1, g2, Nat.le_of_lt (Nat.lt_of_le_of_lt (Nat.add_le_add (by rw [List.length_map, TsAt.len t2]; exact lag) (by rw [List.length_map, TsAt.len u2']; exact lR)) (by decide)), fun nw hnw => ?_⟩
            have W5 : WAt CW H5 F2 { A2 with kvs := dropK A2.kvs (pairK ((l : Int), Qt S l t % S)) } S L (put1 R2 ((l : Int), Qt S l t % S) []) _ := W2.rowOut hk0 (by rw [e5, upd_same]) (fun a o n1 _ e => on5 a o n1 e) (by rw [g2]; trivial)
            have s6 := Same.new (o := .lst (ts.map V.ref ++ us'.map V.ref)) hnw
            refine ⟨{ A2 with kvs := dropK A2.kvs (pairK ((l : Int), Qt S l t % S)) }, F2, put1 R2 ((l : Int), Qt S l t % S) [], nw, ag2 ++ R2 ((l : Int), Qt S l t % S), _, _, v6, v7, rfl, ex2, W5.same s6, ⟨ts ++ us', by rw [upd_same, List.map_append], ?_⟩, fun z => ?_, C2.trans (Ch.of1 (x := A2.rw) (fun a o e n => s6 a o (on5 a o (fun z => n (by rw [z]; exact W2.frw)) e)) (fun a z => .inl z) (fun a o n e => s6 a o (on5 a o n e)) ⟨_, s6 _ _ (by rw [e5, upd_same])⟩), fun k hk => ?_, fun k hk => ?_, ?_, fun p => ?_⟩
            · exact (t2.keep fun a xs e => s6 a _ (tk5 a xs e)).append (u2'.keep fun a xs e => s6 a _ (tk5 a xs e))
            · have := W5.own nw z
              rw [hnw] at this
              exact this
            · by_cases e : k = ((l : Int), Qt S l t % S)
              · rw [e, put1_same]
              · rw [put1_ne e]
                rcases (outF_step hl1 hlL).mp hk with h | h
                · exact o1 k h
                · exact absurd h.2 e
            · have e : k ≠ ((l : Int), Qt S l t % S) := fun z => hk ((outF_step hl1 hlL).mpr (.inr ⟨c, z⟩))
              rw [put1_ne e]
              exact o2 k fun z => hk ((outF_step hl1 hlL).mpr (.inl z))
            · rw [List.nodup_append, eR]
              refine ⟨nd2, G.nd _, fun a h a' h' e => ?_⟩
              subst e
              exact agM_new ((m2 a).mp h) ((G.row _ _).mp h').2
            · rw [List.mem_append, m2, eR, G.row, agM_step hl1 hlL]
              exact ⟨fun z => z.imp id fun y => ⟨c, y⟩, fun z => z.imp id fun y => y.2⟩
          · -- not there
            by_cases hk0 : R2 ((l : Int), Qt S l t % S) = []
            · obtain ⟨H5, e5⟩ : ∃ H5, H5 = upd (upd H2 u (.tup [.int (1 + ((((L : Int) - 1).toNat : Nat) : Int) - 1 + (i : Nat) * (-1)), .int ((t / S ^ l).fmod S)])) d (.lst []) := ⟨_, rfl⟩
              rw [← e5] at s4 W4 ⊢
              have g1 : H5 q2 = some (.lst (ts.map V.ref)) := s4 _ _ t1
              have g2 : H5 d = some (.lst []) := by rw [e5, upd_same]
              refine ⟨q2, _, _, _, rfl, rfl, g1, g2, Nat.le_of_lt (Nat.lt_of_le_of_lt (Nat.add_le_add (by rw [List.length_map, TsAt.len t2]; exact lag) (Nat.zero_le 0)) (by decide)), fun nw hnw => ?_⟩
              have s6 := Same.new (o := .lst (ts.map V.ref ++ [])) hnw
              refine ⟨A2, F2, R2, nw, ag2, _, _, v6, v7, rfl, ex2, W4.same s6, ⟨ts, by rw [upd_same, List.append_nil], t2.keep fun a xs e => s6 a _ (s4 a _ e)⟩, fun z => ?_, C2.trans (Same.ch (s4.trans s6)), fun k hk => ?_, fun k hk => ?_, nd2, fun p => ?_⟩
              · have := W4.own nw z
                rw [hnw] at this
                exact this
              · rcases (outF_step hl1 hlL).mp hk with h | h
                · exact o1 k h
                · rw [h.2]
                  exact hk0
              · exact o2 k fun z => hk ((outF_step hl1 hlL).mpr (.inl z))
              · rw [m2, agM_step hl1 hlL]
                refine ⟨fun z => .inl z, fun z => z.elim id fun y => ?_⟩
                have := (G.row _ _).mpr y.2
                rw [← eR, hk0] at this
                cases this
            · rw [(W2.yes _ hk0).1] at hv
              cases hv
      · -- what was taken out is put anew
        rintro sg H2 ⟨A2, F2, R2, q2, ag2, v4, v5, v6, v7, rfl, ex2, W2, ⟨ts, t1, t2⟩, nq2, C2, o1, o2, nd2, m2⟩
        have hb : L - ((L : Int) - 1).toNat = 1 := by omega
        rw [hb] at o1 o2 m2
        have G2 : Good S L t R2 (if Qt S L now = Qt S L t then far else []) (fun p => Wp p ∧ ¬ Moved S L now t p.1) := G.turn hS B.lpos h1 h2 (fun k hk => o1 k (outF_one.mpr hk)) (fun k hk => o2 k fun z => hk (outF_one.mp z)) (fun z => if_neg z) fun z => if_pos z
        refine ⟨_, rfl, q2, rfl, ⟨_, SqL.of t1⟩, for_list (K := K) (a := q2) (xs := ts.map V.ref) (fun i sg H' => ∃ (A' : WA) (F' : Addr → Prop) (R' : Int × Int → List (Int × Int)) (far' : List (Int × Int)) (v6 v7 : Option V),
          sg = [some (.ref A.x), some (.int now), some (.int t), some (.ref q2), v4, v5, v6, v7] ∧ A'.x = A.x ∧ WAt CW H' F' A' S L R' far' ∧ Good S L t R' far' (fun p => (Wp p ∧ ¬ Moved S L now t p.1) ∨ p ∈ ag2.take i) ∧ ¬ F' q2 ∧ H' q2 = some (.lst (ts.map V.ref)) ∧ TsAt H' ts ag2 ∧ Ch F F' H H') ?_ ?_ ?_ ?_⟩
        · exact ⟨A2, F2, R2, _, v6, v7, rfl, ex2, W2, G2.congr fun p => by simp, nq2, t1, t2, C2⟩
        · rintro i sg H3 _ ⟨A3, F3, R3, far3, v6, v7, rfl, ex3, W3, G3, nq3, g3, t3, C3⟩
          exact SqL.of g3
        · rintro i y sg H3 hi ⟨A3, F3, R3, far3, v6, v7, rfl, ex3, W3, G3, nq3, g3, t3, C3⟩
          obtain ⟨tt, ht, rfl⟩ : ∃ tt, ts[i]? = some tt ∧ y = V.ref tt := by
            rw [List.getElem?_map] at hi
            cases e : ts[i]? with
            | none =>
              rw [e] at hi
              cases hi
            | some z =>
              rw [e] at hi
              exact ⟨z, rfl, (Option.some.inj hi).symm⟩
          obtain ⟨⟨d, n⟩, hp, htt⟩ := paired_at2 t3 ht
          refine ⟨tt, _, rfl, SqT.of htt, rfl, _, _, rfl, _, _, rfl, rfl, ?_⟩
          have W3b := W3.ob
          rw [ex3] at W3b
          have mem : (d, n) ∈ ag2 := List.mem_of_getElem? hp
          have hW : Wp (d, n) ∧ Moved S L now t d := agM_one.mp ((m2 _).mp mem)
          have few3 : Few fun p => (Wp p ∧ ¬ Moved S L now t p.1) ∨ p ∈ ag2.take i := few.sub fun p hp => hp.elim (fun z => z.1) fun z => ((m2 p).mp (List.mem_of_mem_take z)).1
          have fresh : ¬ ((Wp (d, n) ∧ ¬ Moved S L now t d) ∨ (d, n) ∈ ag2.take i) := by
            rintro (z | z)
            · exact z.2 hW.2
            · obtain ⟨j, hj, e⟩ := List.mem_iff_getElem.mp z
              have hj' : j < i := by
                have := hj
                rw [List.length_take] at this
                omega
              rw [List.getElem_take] at e
              have hji := nd_ix nd2 (i := j) (j := i) (x := (d, n)) (List.getElem?_eq_some_iff.mpr ⟨by rw [List.length_take] at hj; omega, e⟩) hp
              omega
          refine ⟨_, rfl, A.x, A3.dx, _, rfl, W3b, rfl, _, rfl, _, rfl, _, rfl, A3, F3, S, L, R3, far3, t, d, n, by rw [ex3]; rfl, W3, B, (G3.lens few3).1, (G3.lens few3).2, fun A4 F4 H4 ex4 W4 C4 => ?_⟩
          have on4 := C4.on W3.own (G := fun a => a = q2) fun a e z => nq3 (by rw [← e]; exact z)
          refine ⟨A4, F4, _, _, _, _, rfl, ex4.trans ex3, W4, (G3.put fresh).congr fun p => ?_, fun z => ?_, on4 _ _ g3 (.inl rfl), t3.on on4, C3.trans C4⟩
          · have hil : i < ag2.length := (List.getElem?_eq_some_iff.mp hp).1
            have e : ag2.take (i + 1) = ag2.take i ++ [(d, n)] := by
              rw [List.take_succ, hp]
              rfl
            rw [e, List.mem_append, List.mem_singleton]
            exact or_assoc.symm
          · rcases C4.gr _ z with z | z
            · exact nq3 z
            · rw [g3] at z
              cases z
        · rintro sg H3 ⟨A3, F3, R3, far3, v6, v7, rfl, ex3, W3, G3, nq3, g3, t3, C3⟩
          refine k A3 F3 H3 R3 far3 ex3 W3 (G3.congr fun p => ?_) C3
          have e : ag2.take (ts.map V.ref).length = ag2 := by rw [List.length_map, TsAt.len t3, List.take_length]
          rw [e, m2, agM_one]
          constructor
          · intro hp
            by_cases z : Moved S L now t p.1
            · exact .inr ⟨hp, z⟩
            · exact .inl ⟨hp, z⟩
          · rintro (z | z)
            · exact z.1
            · exact z.1
end
end L2.TK
set_option Elab.async false
set_option linter.all false
set_option maxRecDepth 100000
set_option maxHeartbeats 4000000
namespace L2.TK
open PySem TkM
def spTake (CW : Addr) : Sp := fun vs H Q _ => ∃ (A : WA) (F : Addr → Prop) (S : Int) (L : Nat) (R : Int × Int → List (Int × Int)) (far : List (Int × Int)) (now : Int) (Wp : Int × Int → Prop), vs = [.ref A.x, .int now] ∧ WAt CW H F A S L R far ∧ WS S L ∧
  Good S L now R far Wp ∧ Few Wp ∧
  ∀ (A' : WA) (F' : Addr → Prop) (H' : Hp) (R' : Int × Int → List (Int × Int)) (p : Addr) (ns : List Int), A'.x = A.x → WAt CW H' F' A' S L R' far → Good S L now R' far (fun p => Wp p ∧ p.1 ≠ now) → Ch F F' H H' → H p = none → ¬ F' p → H' p = some (.lst (ns.map V.int)) →
    ns.Pairwise (· < ·) → (∀ n, n ∈ ns ↔ Wp (now, n)) → Q (.ref p) H'
theorem pair_snd {ps : List (Int × Int)} {now : Int} (h : ps.Nodup) (e : ∀ p, p ∈ ps → p.1 = now) : (ps.map (·.2)).Nodup := by
  induction ps with
  | nil => exact List.nodup_nil
  | cons p ps ih =>
    obtain ⟨h1, h2⟩ := List.nodup_cons.mp h
    rw [List.map_cons, List.nodup_cons]
    refine ⟨fun m => ?_, ih h2 fun q hq => e q (List.mem_cons_of_mem _ hq)⟩
    obtain ⟨q, hq, e2⟩ := List.mem_map.mp m
    have e3 := e q (List.mem_cons_of_mem _ hq)
    have e4 := e p List.mem_cons_self
    exact h1 (by rw [show p = q from Prod.ext (by rw [e3, e4]) e2.symm]; exact hq)
theorem strict_of {ns : List Int} (h : ns.Pairwise (· ≤ ·)) (n : ns.Nodup) : ns.Pairwise (· < ·) := by
  have := h.and (List.nodup_iff_pairwise_ne.mp n)
  exact this.imp fun {a b} ⟨x, y⟩ => by omega
/-- sorted([one[1] for one in a]), a a list of pairs -/
theorem snds_sorted {K : PySem.W.Frag} {a : Addr} {ps : List (Int × Int)} {i : Nat} {sg : St} {H5 : Hp} {Q : VK} (hp : PL H5 a ps) (hz : ps.length ≤ 1000) (hw : ∀ x : V, wipe ((wipe sg [i]).set i (some x)) [i] = wipe sg [i])
    (hi : ∀ x : V, ((wipe sg [i]).set i (some x))[i]? = some (some x))
    (k : ∀ (p : Addr) (H' : Hp) (ns : List Int), H5 p = none → Same H5 H' → H' p = some (.lst (ns.map V.int)) → ns.Perm (ps.map (·.2)) → ns.Pairwise (· ≤ ·) → Q (.ref p) H') :
    tLc (iList K (fun _ H Q => Q (.ref a) H)) (gName i) tYes (tOp (rIxT K) (tVar i) (tC (.int 1))) [i] sg H5 (fun x H' => rSortedI K [x] H' Q) := by
  obtain ⟨ts, t1, t2⟩ := hp
  refine lc_map (f := sndV H5) (xs := ts.map V.ref) (SqL.of t1) (small1000 (by rw [List.length_map, TsAt.len t2]; exact hz)) (fun x hx H' Q' s q => ?_) hw fun D H' hD s h => ?_
  · obtain ⟨t, p, rfl, _, ht⟩ := ts_mem t2 x hx
    rw [snd_at ht] at q
    exact ⟨_, hi _, t, _, _, _, rfl, rfl, SqT.of (s _ _ ht), at_of (j := 1) rfl rfl, q⟩
  · rw [snd_map t2] at h
    refine ⟨D, _, rfl, SqL.of h, fun ns p h1 h2 h3 => ?_⟩
    have s2 : Same H' (upd H' p (.lst (ns.map V.int))) := Same.new h3
    refine k p _ ns ?_ (s.trans s2) upd_same h1 h2
    cases e : H5 p with
    | none => rfl
    | some o =>
      rw [s p o e] at h3
      cases h3
section
variable {P : Program} {w : World} {K : PySem.W.Frag} {mg : Str → Option Value} {base : Heap} {CW CA CB CT CBad CPast CNot : Addr}
theorem scTake : FnScope ["self", "now", "one"] ["self", "now"] (defScope sWheels_take_now) := ⟨rfl, rfl, rfl, by decide +kernel, rfl, by decide +kernel, by decide +kernel⟩
theorem ok_Take {f : Addr} {fd : FuncData} (F : Fun K "take_now" "Wheels.take_now" sWheels_take_now f fd) (T : Txt K mg CW CA CB CT CBad CPast CNot) :
    FnOk P w K mg base CX0 1 f fd ["self", "now"] (spTake CW) := by
  refine F.ok scTake (fun vs H Q E h => ?_) (fun cdv A outer s H vs Q E hr h => ?_)
  · obtain ⟨A, F, S, L, R, far, now, Wp, rfl, _⟩ := h
    rfl
  · obtain ⟨A, F, S, L, R, far, now, Wp, rfl, W, B, G, few, k⟩ := h
    have hu := hu_of hr
    have b1 := B.s2
    have hS := B.pos
    refine ⟨_, pss_one (ps_ret (pe_callB cr_sortedI (by rfl) T.sorted (by decide +kernel) (pa_cons
      (pe_lc (own := [("one", 2)]) (g := gName 2) (tt := tYes) (te := tOp (rIxT K) (tVar 2) (tC (.int 1))) rfl scTake.nd (pi_list (pe_bm PySem.F.plainAttrs_dict PySem.F.slot_dict_pop PySem.F.type_dict_pop (DX.mt_popT hu) (pe_fld (pv 0) rfl) (pa_cons (pe_tup (pa_cons pe_int (pa_cons (pe_op op_modN (pv 1) (pe_fld (pv 0) rfl)) pa_nil))) (pa_cons (pe_lst pa_nil) pa_nil))))
        (blkOk_by (own := [("one", 2)]) (N := ["self", "now", "one"]) (sc := defScope sWheels_take_now) (by decide +kernel)) (fun _ _ _ _ _ => pg_name (i := 2) scTake.nd rfl (Or.inl rfl)) (fun _ _ _ _ _ => pts_nil) (fun _ _ _ _ _ => pe_ix ix_tup (pv 2) pe_int (fun _ _ => rfl))) pa_nil))), ?_⟩
    have en : now.fmod S = now % S := fmodP hS
    refine ⟨_, rfl, A.x, CW, A.dx, _, _, rfl, W.ob, T.clW, T.wRows, wf_rows, .inr (.inr (.inl ⟨rfl, .inr ⟨_, W.rw⟩⟩)), ?_⟩
    refine ⟨_, rfl, _, rfl, A.x, CW, A.dx, _, _, rfl, W.ob, T.clW, T.wSlots, wf_slots, _, _, rfl, rfl, by omega, (by show 2 ≤ sizeLine; decide), fun u hu' => ?_⟩
    have s3 : Same H (upd H u (.tup [.int 0, .int (now.fmod S)])) := Same.new hu'
    have eu : (upd H u (.tup [.int 0, .int (now.fmod S)])) u = some (.tup ((pairK ((0 : Int), now % S)).map kV)) := by
      rw [upd_same, pairK_map, en]
    refine ⟨Nat.zero_le _, fun d hd => ?_⟩
    have s4 := s3.trans (Same.new (o := .lst []) hd)
    have W4 := W.same s4
    have eu' := Same.new (o := .lst []) hd _ _ eu


    have hnow := G.at_now hS B.lpos
    have GT := G.take_now hS B.lpos
    have nsnd : ∀ ps : List (Int × Int), ps = R (0, now % S) → ∀ ns : List Int, ns.Perm (ps.map (·.2)) → ns.Pairwise (· ≤ ·) → ns.Pairwise (· < ·) ∧ ∀ n, n ∈ ns ↔ Wp (now, n) := fun ps e ns h1 h2 => by
      subst e
      have nd : ((R (0, now % S)).map (·.2)).Nodup := pair_snd (G.nd _) fun p hp => ((hnow p).mp hp).2
      refine ⟨strict_of h2 (h1.nodup_iff.mpr nd), fun n => ?_⟩
      rw [h1.mem_iff, List.mem_map]
      constructor
      · rintro ⟨p, hp, rfl⟩
        obtain ⟨w1, w2⟩ := (hnow p).mp hp
        rw [← w2]
        exact w1
      · intro hw
        exact ⟨(now, n), (hnow _).mpr ⟨hw, rfl⟩, rfl⟩
    refine ⟨A.rw, A.kvs, pairK ((0 : Int), now % S), u, .ref d, rfl, rfl, W4.rw, eu', fun v hv => ?_, fun hv => ?_⟩
    · by_cases hk0 : R ((0 : Int), now % S) = []
      · rw [W.no _ hk0] at hv
        cases hv
      obtain ⟨y1, ⟨us, u1, u2⟩, y3, y4, y5⟩ := W4.yes _ hk0
      rw [y1] at hv
      cases hv
      generalize e5 : upd (upd (upd H u (.tup [.int 0, .int (now.fmod S)])) d (.lst [])) A.rw (.dT (dropK A.kvs (pairK ((0 : Int), now % S)))) = H5
      have on5 : ∀ a o, a ≠ A.rw → H a = some o → H5 a = some o := fun a o n e => by
        rw [← e5, upd_ne n]
        exact s4 a o e
      obtain ⟨_, ⟨us', u1', u2'⟩, _⟩ := W.yes _ hk0
      have g2 : H5 (A.ad ((0 : Int), now % S)) = some (.lst (us'.map V.ref)) := on5 _ _ (ne_of u1' W.rw (by intro z; cases z)) u1'
      have W5 : WAt CW H5 F { A with kvs := dropK A.kvs (pairK ((0 : Int), now % S)) } S L (put1 R ((0 : Int), now % S) []) far := W.rowOut hk0 (by rw [← e5, upd_same]) (fun a o n1 _ e => on5 a o n1 e) (by rw [g2]; trivial)
      have pl : PL H5 (A.ad ((0 : Int), now % S)) (R ((0 : Int), now % S)) := ⟨us', g2, u2'.keep fun a xs e => on5 a _ (ne_of e W.rw (by intro z; cases z)) e⟩
      refine snds_sorted pl ((G.lens few).1 _) (fun _ => rfl) (fun _ => rfl) fun p H' ns hp s6 h1 h2 h3 => ?_
      obtain ⟨n1, n2⟩ := nsnd _ rfl ns h2 h3
      have hpH : H p = none := by
        cases e : H p with
        | none => rfl
        | some o =>
          by_cases z : p = A.rw
          · rw [z, ← e5, upd_same] at hp
            cases hp
          · rw [on5 p o z e] at hp
            cases hp
      refine k { A with kvs := dropK A.kvs (pairK ((0 : Int), now % S)) } F H' _ p ns rfl (W5.same s6) GT (Ch.of1 (x := A.rw) (fun a o e n => s6 a o (on5 a o (fun z => n (by rw [z]; exact W.frw)) e)) (fun a z => .inl z) (fun a o n e => s6 a o (on5 a o n e)) ⟨_, s6 _ _ (by rw [← e5, upd_same])⟩) hpH (fun z => ?_) h1 n1 n2
      have := W.own p z
      rw [hpH] at this
      exact this
    · by_cases hk0 : R ((0 : Int), now % S) = []
      · have pl : PL (upd (upd H u (.tup [.int 0, .int (now.fmod S)])) d (.lst [])) d (R ((0 : Int), now % S)) := by
          rw [hk0]
          exact ⟨[], upd_same, .nil⟩
        refine snds_sorted pl ((G.lens few).1 _) (fun _ => rfl) (fun _ => rfl) fun p H' ns hp s6 h1 h2 h3 => ?_
        obtain ⟨n1, n2⟩ := nsnd _ rfl ns h2 h3
        have s7 := s4.trans s6
        have hpH : H p = none := by
          cases e : H p with
          | none => rfl
          | some o =>
            rw [s4 p o e] at hp
            cases hp
        have e0 : put1 R ((0 : Int), now % S) [] = R := by
          funext j
          by_cases e : j = ((0 : Int), now % S)
          · rw [e, put1_same, hk0]
          · rw [put1_ne e]
        rw [e0] at GT
        refine k A F H' R p ns rfl (W.same s7) GT (Same.ch s7) hpH (fun z => ?_) h1 n1 n2
        have := W.own p z
        rw [hpH] at this
        exact this
      · rw [(W.yes _ hk0).1] at hv
        cases hv
end
end L2.TK
set_option Elab.async false
set_option linter.all false
set_option maxRecDepth 100000
set_option maxHeartbeats 4000000
namespace L2.TK
open PySem TkM
def spDrop (CW : Addr) : Sp := fun vs H Q _ => ∃ (A : WA) (F : Addr → Prop) (S : Int) (L : Nat) (R : Int × Int → List (Int × Int)) (far : List (Int × Int)) (now due num : Int) (Wp : Int × Int → Prop), vs = [.ref A.x, .int now, .int due, .int num] ∧ WAt CW H F A S L R far ∧ WS S L ∧
  Good S L now R far Wp ∧ Wp (due, num) ∧
  ∀ (A' : WA) (F' : Addr → Prop) (H' : Hp) (R' : Int × Int → List (Int × Int)) (far' : List (Int × Int)), A'.x = A.x → WAt CW H' F' A' S L R' far' → Good S L now R' far' (fun q => Wp q ∧ q ≠ (due, num)) → Ch F F' H H' → Q .non H'
theorem first_idx {A : Type} [DecidableEq A] {x : A} : ∀ {l : List A}, x ∈ l → ∃ j : Nat, l[j]? = some x ∧ ∀ m : Nat, m < j → l[m]? ≠ some x
  | [], h => nomatch h
  | y :: l, h => by
    by_cases e : y = x
    · exact ⟨0, by rw [e]; rfl, fun m hm => absurd hm (Nat.not_lt_zero m)⟩
    · obtain ⟨j, h1, h2⟩ := first_idx ((List.mem_cons.mp h).resolve_left fun z => e z.symm)
      refine ⟨j + 1, h1, fun m hm => ?_⟩
      cases m with
      | zero => exact fun z => e (Option.some.inj z)
      | succ m => exact h2 m (by omega)
section
variable {P : Program} {w : World} {K : PySem.W.Frag} {mg : Str → Option Value} {base : Heap} {CW CA CB CT CBad CPast CNot : Addr}
theorem scDrop : FnScope ["self", "now", "due", "number", "place"] ["self", "now", "due", "number"] (defScope sWheels_drop) := ⟨rfl, rfl, rfl, by decide +kernel, rfl, by decide +kernel, by decide +kernel⟩
theorem ok_Drop {f : Addr} {fd : FuncData} (F : Fun K "drop" "Wheels.drop" sWheels_drop f fd) (T : Txt K mg CW CA CB CT CBad CPast CNot) (GP : GMe P w K mg base CX0 1 CW "place" ["self", "now", "due"] (spPlace CW)) :
    FnOk P w K mg base CX0 2 f fd ["self", "now", "due", "number"] (spDrop CW) := by
  obtain ⟨fP, fdP, mP, bP, GP⟩ := GP
  refine F.ok scDrop (fun vs H Q E h => ?_) (fun cdv A outer s H vs Q E hr h => ?_)
  · obtain ⟨A, F, S, L, R, far, now, due, num, Wp, rfl, _⟩ := h
    rfl
  · obtain ⟨A, F, S, L, R, far, now, due, num, Wp, rfl, W, B, G, hw, k⟩ := h
    have hu := hu_of hr
    refine ⟨_, pss_cons (ps_set (i := 4) scDrop.nd rfl (Or.inl rfl) (pe_meth (pv 0) T.clW mP GP hr bP .nil pass0 (pa_cons (pv 1) (pa_cons (pv 2) pa_nil))))
      (pss_one (ps_if (pt_cmpR op_isN (pv 4) pe_non (nomark _))
        (pss_one (ps_expr (pe_bm PySem.F.plainAttrs_list PySem.F.slot_list_remove PySem.F.type_list_remove (mt_removeD (A := Int × Int) (room2 hr)) (pe_fld (pv 0) rfl) (pa_cons (pe_tup (pa_cons (pv 2) (pa_cons (pv 3) pa_nil))) pa_nil))))
        (pss_cons (ps_expr (pe_bm PySem.F.plainAttrs_list PySem.F.slot_list_remove PySem.F.type_list_remove (mt_removeD (A := Int × Int) (room2 hr)) (pe_dget hu (pe_fld (pv 0) rfl) (pv 4) (fun _ _ => rfl)) (pa_cons (pe_tup (pa_cons (pv 2) (pa_cons (pv 3) pa_nil))) pa_nil)))
        (pss_one (ps_if (pt_not (pt_truth (pe_dget hu (pe_fld (pv 0) rfl) (pv 4) (fun _ _ => rfl)) (by intro _; rfl)))
          (pss_one (ps_expr (pe_bm PySem.F.plainAttrs_dict PySem.F.slot_dict_pop PySem.F.type_dict_pop (mt_pop1T hu) (pe_fld (pv 0) rfl) (pa_cons (pv 4) pa_nil)))) pss_nil))))), ?_⟩
    refine ⟨_, rfl, A.x, A.dx, _, rfl, W.ob, rfl, _, rfl, _, rfl, A, F, S, L, R, far, now, due, rfl, W, B, fun hn => ?_, fun kk hk p hp => ?_⟩
    · obtain ⟨ts, t1, t2⟩ := W.fr
      have hmem : (due, num) ∈ far := (G.fr _).mpr ⟨hw, hn⟩
      obtain ⟨j, j1, j2⟩ := first_idx hmem
      refine ⟨_, rfl, rfl, _, rfl, ifT rfl ?_⟩
      refine ⟨_, rfl, A.x, CW, A.dx, _, _, rfl, W.ob, T.clW, T.wFar, wf_far, .inl ⟨rfl, _, SqL.of t1⟩, _, rfl, _, rfl, (by show 2 ≤ sizeLine; decide), fun q hq => ?_⟩
      have sq : Same H (upd H q (.tup [.int due, .int num])) := Same.new hq
      have t2' := TsAt.on (F := F) t2 (On.same sq)
      refine ⟨A.fr, _, _, far, (due, num), j, rfl, rfl, sq _ _ t1, t2'.hd, hd_pair (x := due) (y := num) upd_same (hd_int _) (hd_int _), j1, j2, ?_⟩
      have W1 := (W.same sq).farDrop (j := j) (sq _ _ t1) t2'
      exact k A F _ R _ rfl W1 (G.drop_far hn j1) (Ch.upd W.ffr sq)
    · have sp : Same H (upd H p (.tup [.int kk.1, .int kk.2])) := Same.new hp
      refine ⟨_, rfl, rfl, _, rfl, ifF (fun z => nomatch z) ?_⟩
      have W0 := W.same sp
      have hmem : (due, num) ∈ R kk := (G.row _ _).mpr ⟨hw, hk⟩
      obtain ⟨j, j1, j2⟩ := first_idx hmem
      have hk0 : R kk ≠ [] := fun z => by
        rw [z] at hmem
        cases hmem
      obtain ⟨y1, ⟨ts, t1, t2⟩, y3, y4, y5⟩ := W0.yes kk hk0
      have ep : (upd H p (.tup [.int kk.1, .int kk.2])) p = some (.tup ((pairK kk).map kV)) := upd_same
      refine ⟨_, rfl, A.x, CW, A.dx, _, _, rfl, W0.ob, T.clW, T.wRows, wf_rows, _, rfl, A.rw, _, rfl, by rw [← y1]; exact DGet.t W0.rw ep, ?_⟩
      refine ⟨.inl ⟨rfl, _, SqL.of t1⟩, _, rfl, _, rfl, (by show 2 ≤ sizeLine; decide), fun q hq => ?_⟩
      have sq := Same.new (o := .tup [.int due, .int num]) hq
      have t2' := TsAt.on (F := F) t2 (On.same sq)
      have Wq := W0.same sq
      refine ⟨A.ad kk, _, _, R kk, (due, num), j, rfl, rfl, sq _ _ t1, t2'.hd, hd_pair (x := due) (y := num) upd_same (hd_int _) (hd_int _), j1, j2, ?_⟩
      have spq := sp.trans sq
      have nad : A.rw ≠ A.ad kk := ne_of Wq.rw (sq _ _ t1) (by intro z; cases z)
      have nob : A.x ≠ A.ad kk := ne_of Wq.ob (sq _ _ t1) (by intro z; cases z)
      have npd : p ≠ A.ad kk := ne_of (sq _ _ ep) (sq _ _ t1) (by intro z; cases z)
      have G' := G.drop_some hk j1
      have eR : H = H := rfl
      obtain ⟨H2, eH2⟩ : ∃ H2, H2 = upd (upd (upd H p (.tup [.int kk.1, .int kk.2])) q (.tup [.int due, .int num])) (A.ad kk) (.lst ((ts.map V.ref).eraseIdx j)) := ⟨_, rfl⟩
      have o2 : H2 A.x = some (.ins CW A.dx (wf S L A.sp A.rw A.fr)) := by
        rw [eH2, upd_ne nob]
        exact Wq.ob
      have r2 : H2 A.rw = some (.dT A.kvs) := by
        rw [eH2, upd_ne nad]
        exact Wq.rw
      have l2 : H2 (A.ad kk) = some (.lst ((ts.map V.ref).eraseIdx j)) := by
        rw [eH2, upd_same]
      have p2 : H2 p = some (.tup ((pairK kk).map kV)) := by
        rw [eH2, upd_ne npd]
        exact sq _ _ ep
      rw [← eH2]
      refine ⟨_, rfl, A.x, CW, A.dx, _, _, rfl, o2, T.clW, T.wRows, wf_rows, _, rfl, A.rw, .ref (A.ad kk), rfl, by rw [← y1]; exact DGet.t r2 p2, !((ts.map V.ref).eraseIdx j).isEmpty, .inl ⟨_, SqL.of l2, rfl⟩, ?_⟩
      have lenR := TsAt.len t2'
      by_cases he : (R kk).eraseIdx j = []
      · have hemp : ((ts.map V.ref).eraseIdx j).isEmpty = true := by
          rw [List.isEmpty_iff]
          have h1 : ((ts.map V.ref).eraseIdx j).length = ((R kk).eraseIdx j).length := by
            rw [List.length_eraseIdx, List.length_eraseIdx, List.length_map, lenR]
          rw [he] at h1
          exact List.eq_nil_of_length_eq_zero h1
        rw [hemp]
        refine iteT ?_
        refine ⟨_, rfl, A.x, CW, A.dx, _, _, rfl, o2, T.clW, T.wRows, wf_rows, .inr (.inr (.inl ⟨rfl, .inr ⟨_, r2⟩⟩)), _, rfl, A.rw, p, A.kvs, pairK kk, _, rfl, rfl, r2, p2, y1, ?_⟩
        rw [he] at G'
        have on : ∀ a o, a ≠ A.rw → a ≠ A.ad kk → H a = some o → upd H2 A.rw (.dT (dropK A.kvs (pairK kk))) a = some o := fun a o n1 n2 e => by
          rw [upd_ne n1, eH2, upd_ne n2]
          exact spq a o e
        have W2 := W.rowOut (k := kk) (H' := upd H2 A.rw (.dT (dropK A.kvs (pairK kk)))) hk0 upd_same on (by rw [upd_ne nad.symm, l2]; trivial)
        refine k _ F _ _ far (by rfl) W2 G' ⟨fun a o e n => on a o (fun z => n (z ▸ W.frw)) (fun z => n (z ▸ y3)) e, fun a h => .inl h, fun a h => ?_⟩
        by_cases z1 : a = A.rw
        · rw [z1, upd_same] at h
          cases h
        · by_cases z2 : a = A.ad kk
          · rw [z2, upd_ne nad.symm, l2] at h
            cases h
          · cases e : H a with
            | none => rfl
            | some o =>
              rw [on a o z1 z2 e] at h
              cases h
      · have hemp : ((ts.map V.ref).eraseIdx j).isEmpty = false := by
          cases e : (ts.map V.ref).eraseIdx j with
          | nil =>
            exfalso
            have h1 : ((ts.map V.ref).eraseIdx j).length = ((R kk).eraseIdx j).length := by
              rw [List.length_eraseIdx, List.length_eraseIdx, List.length_map, lenR]
            rw [e] at h1
            exact he (List.eq_nil_of_length_eq_zero h1.symm)
          | cons a l => rfl
        rw [hemp]
        refine iteF ?_
        have W2 := Wq.rowDrop (j := j) he (sq _ _ t1) t2'
        rw [← eH2] at W2
        exact k A F H2 _ far rfl W2 G' (by rw [eH2]; exact Ch.upd y3 spq)
end
end L2.TK
set_option Elab.async false
set_option linter.all false
set_option maxRecDepth 100000
set_option maxHeartbeats 4000000
namespace L2.TK
open PySem TkM
theorem BAt.WS {CW CA CB : Addr} {H : Hp} {F : Addr → Prop} {A : BA} {S : Int} {L : Nat} {now tn many : Int} {m : Mp Str} {Wp : Int × Int → Prop} (b : BAt CW CA CB H F A S L now tn many m Wp) : WS S L := ⟨b.ws.1, b.ws.2.1, b.ws.2.2.1, b.ws.2.2.2⟩
/-- a book as it is between two deeds -/
abbrev Bk (CW CA CB : Addr) (H : Hp) (F : Addr → Prop) (A : BA) (S : Int) (L : Nat) (now many : Int) (m : Mp Str) : Prop := BAt CW CA CB H F A S L now now many m (Wt m) ∧ ∀ p, Wt m p → now < p.1
def spAInit (CA : Addr) : Sp := fun vs H Q _ => ∃ (p dx : Addr) (nm : Str) (due : Int) (st : V), vs = [.ref p, .str nm, .int due, st] ∧ H p = some (.ins CA dx []) ∧
  ∀ H', H' p = some (.ins CA dx (af nm due st .non)) → (∀ a o, H a = some o → a ≠ p → H' a = some o) → Q .non H'
def spBInit (CW CA CB CBad : Addr) : Sp := fun vs H Q E => ∃ (p dx : Addr) (S l : Int), vs = [.ref p, .int S, .int l] ∧ H p = some (.ins CB dx []) ∧
  (¬ (2 ≤ S ∧ S ≤ 64 ∧ 1 ≤ l ∧ l ≤ 6) → ∀ H', Same H H' → E (.ref CBad) none H') ∧
  (2 ≤ S ∧ S ≤ 64 ∧ 1 ≤ l ∧ l ≤ 6 → ∀ (A : BA) (F : Addr → Prop) (H' : Hp), A.x = p → Bk CW CA CB H' F A S l.toNat 0 0 (fun _ => none) → Ch (fun a => a = p) F H H' → Q .non H')
def spTime (CW CA CB : Addr) : Sp := fun vs H Q _ => ∃ (A : BA) (F : Addr → Prop) (S : Int) (L : Nat) (now tn many : Int) (m : Mp Str) (Wp : Int × Int → Prop), vs = [.ref A.x] ∧ BAt CW CA CB H F A S L now tn many m Wp ∧ Q (.int now) H
def spNeed (CW CA CB CNot : Addr) : Sp := fun vs H Q E => ∃ (A : BA) (F : Addr → Prop) (S : Int) (L : Nat) (now tn many : Int) (m : Mp Str) (Wp : Int × Int → Prop) (n : Int) (r : Bool), vs = [.ref A.x, .int n, .bl r] ∧ BAt CW CA CB H F A S L now tn many m Wp ∧
  (m n = none → E (.ref CNot) none H) ∧ ∀ a, m n = some a → (a.rests ≠ r → E (.ref CNot) none H) ∧ (a.rests = r → Q (.ref (A.aa n)) H)
def spDue (CW CA CB : Addr) : Sp := fun vs H Q _ => ∃ (A : BA) (F : Addr → Prop) (S : Int) (L : Nat) (now tn many : Int) (m : Mp Str) (Wp : Int × Int → Prop) (n : Int) (a : Al Str), vs = [.ref A.x, .int n] ∧ BAt CW CA CB H F A S L now tn many m Wp ∧ m n = some a ∧ a.rests = false ∧ Q (.int a.val) H
def spLeft (CW CA CB : Addr) : Sp := fun vs H Q _ => ∃ (A : BA) (F : Addr → Prop) (S : Int) (L : Nat) (now tn many : Int) (m : Mp Str) (Wp : Int × Int → Prop) (n : Int) (a : Al Str), vs = [.ref A.x, .int n] ∧ BAt CW CA CB H F A S L now tn many m Wp ∧ m n = some a ∧ a.rests = true ∧ Q (.int a.val) H
def spBSoon (CW CA CB : Addr) : Sp := fun vs H Q _ => ∃ (A : BA) (F : Addr → Prop) (S : Int) (L : Nat) (now many : Int) (m : Mp Str) (Wp : Int × Int → Prop), vs = [.ref A.x] ∧ BAt CW CA CB H F A S L now now many m Wp ∧ (∀ p, Wp p → now < p.1) ∧ ∀ H', Same H H' → SoonV Wp Q H'
section
variable {P : Program} {w : World} {K : PySem.W.Frag} {mg : Str → Option Value} {base : Heap} {CW CA CB CT CBad CPast CNot : Addr}
theorem scAInit : FnScope ["self", "name", "due", "step"] ["self", "name", "due", "step"] (defScope sAlarm_init) := ⟨rfl, rfl, rfl, by decide +kernel, rfl, by decide +kernel, by decide +kernel⟩
theorem ok_AInit {f : Addr} {fd : FuncData} (F : Fun K "__init__" "Alarm.__init__" sAlarm_init f fd) (T : Txt K mg CW CA CB CT CBad CPast CNot) : FnOk P w K mg base CX0 1 f fd ["self", "name", "due", "step"] (spAInit CA) := by
  refine F.ok scAInit (fun vs H Q E h => ?_) (fun cdv A outer s H vs Q E hr h => ?_)
  · obtain ⟨p, dx, nm, due, st, rfl, _⟩ := h
    rfl
  · obtain ⟨p, dx, nm, due, st, rfl, hp, k⟩ := h
    refine ⟨_, pss_cons (ps_fld (pv 0) (pv 1) rfl) (pss_cons (ps_fld (pv 0) (pv 2) rfl) (pss_cons (ps_fld (pv 0) (pv 3) rfl) (pss_one (ps_fld (pv 0) pe_non rfl)))), ?_⟩
    refine ⟨_, rfl, _, rfl, p, CA, dx, _, rfl, hp, T.clA, T.aName, (by show 0 < 1000; decide), ?_⟩
    refine ⟨_, rfl, _, rfl, p, CA, dx, _, rfl, upd_same, T.clA, T.aWhen, (by show 1 < 1000; decide), ?_⟩
    refine ⟨_, rfl, _, rfl, p, CA, dx, _, rfl, upd_same, T.clA, T.aStep, (by show 2 < 1000; decide), ?_⟩
    refine ⟨_, rfl, p, CA, dx, _, rfl, upd_same, T.clA, T.aRest, (by show 3 < 1000; decide), ?_⟩
    refine k _ upd_same fun a o e n => ?_
    rw [upd_ne n, upd_ne n, upd_ne n, upd_ne n]
    exact e
theorem scBInit : FnScope ["self", "slots", "levels"] ["self", "slots", "levels"] (defScope sBook_init) := ⟨rfl, rfl, rfl, by decide +kernel, rfl, by decide +kernel, by decide +kernel⟩
theorem ok_BInit {f : Addr} {fd : FuncData} (F : Fun K "__init__" "Book.__init__" sBook_init f fd) (T : Txt K mg CW CA CB CT CBad CPast CNot) (GW : GMk P w K mg base (L2.CX P w) 1 CW ["self", "slots", "levels"] (spWInit CW CBad)) :
    FnOk P w K mg base (L2.CX P w) 3 f fd ["self", "slots", "levels"] (spBInit CW CA CB CBad) := by
  obtain ⟨fW, fdW, mW, bW, GW⟩ := GW
  refine F.okX scBInit (fun vs H Q E h => ?_) (fun cdv A outer s H vs Q E hr h => ?_)
  · obtain ⟨p, dx, S, l, rfl, _⟩ := h
    rfl
  · obtain ⟨p, dx, S, l, rfl, hp, kE, k⟩ := h
    refine ⟨_, pss_cons (ps_fld (pv 0) (pe_make mW GW hr rfl T.mgW bW .nil (passes_call (takes_of rfl rfl rfl rfl) (fun _ _ _ _ h => h)) (pa_cons (pv 1) (pa_cons (pv 2) pa_nil))) rfl)
      (pss_cons (ps_fld (pv 0) pe_int rfl) (pss_cons (ps_fld (pv 0) pe_int rfl) (pss_one (ps_fld (pv 0) pe_dnewK rfl)))), ?_⟩
    refine ⟨_, rfl, _, rfl, fun x dy nx ndy nex => ?_⟩
    have s0 : Same H (upd (upd H dy (.own x)) x (.ins CW dy [])) := fun a o e => by
      rw [upd_ne (ne_of_none e nx), upd_ne (ne_of_none e ndy)]
      exact e
    refine ⟨x, dy, S, l, rfl, upd_same, fun hb => kE hb _ s0, fun hg WA' FW H1 ex W1 C1 => ⟨rfl, ?_⟩⟩
    obtain ⟨g1, g2, g3, g4⟩ := id hg
    have npx : p ≠ x := ne_of_none hp nx
    have hp1 : H1 p = some (.ins CB dx []) := C1.kp _ _ (s0 _ _ hp) npx
    refine ⟨_, rfl, p, CB, dx, _, rfl, hp1, T.clB, T.bWheels, (by show 0 < 1000; decide), ?_⟩
    refine ⟨_, rfl, p, CB, dx, _, rfl, upd_same, T.clB, T.bNow, (by show 1 < 1000; decide), ?_⟩
    refine ⟨_, rfl, p, CB, dx, _, rfl, upd_same, T.clB, T.bMany, (by show 2 < 1000; decide), ?_⟩
    intro al hal
    have npal : p ≠ al := fun z => by
      rw [← z, upd_same] at hal
      cases hal
    have hal1 : H1 al = none := by
      rw [upd_ne npal.symm, upd_ne npal.symm, upd_ne npal.symm] at hal
      exact hal
    refine ⟨_, rfl, p, CB, dx, _, rfl, Eq.trans (upd_ne npal) upd_same, T.clB, T.bAlarms, (by show 3 < 1000; decide), ?_⟩
    have back : ∀ a, H1 a = none → a = x ∨ H a = none := fun a e => by
      by_cases z : a = x
      · exact .inl z
      · right
        cases q : H a with
        | none => rfl
        | some o =>
          rw [C1.kp a o (s0 a o q) z] at e
          cases e
    have nfp : ¬ FW p := fun z => by
      rcases C1.gr p z with z | z
      · exact npx z
      · rw [s0 _ _ hp] at z
        cases z
    have nfal : ¬ FW al := fun z => by
      have := W1.own al z
      rw [hal1] at this
      exact this
    have on : ∀ a o, a ≠ p → H1 a = some o → upd (upd (upd (upd (upd H1 p (.ins CB dx (putF "wheels" (.ref x) []))) p (.ins CB dx (putF "now" (.int 0) (putF "wheels" (.ref x) [])))) p (.ins CB dx (putF "many" (.int 0) (putF "now" (.int 0) (putF "wheels" (.ref x) []))))) al (.dK [])) p (.ins CB dx (putF "alarms" (.ref al) (putF "many" (.int 0) (putF "now" (.int 0) (putF "wheels" (.ref x) []))))) a = some o := fun a o n e => by
      rw [upd_ne n, upd_ne (ne_of_none e hal1), upd_ne n, upd_ne n, upd_ne n]
      exact e
    refine k hg ⟨p, dx, al, fun _ => p, [], WA', FW⟩ (fun a => a = p ∨ a = al ∨ FW a) _ rfl ⟨⟨?_, ?_, List.nodup_nil, fun e he => (nomatch he), fun n _ => valV_nil, fun n a h => (nomatch h), fun n j a b h => (nomatch h), fun n a s h => (nomatch h), .inl rfl, .inr (.inl rfl), nfp, nfal, fun a h => .inr (.inr h), fun a h => ?_, ⟨_, _, W1.keep fun a o e z => on a o ?_ e, Good.empty.congr fun p => ?_⟩, g1, g2, by omega, by omega⟩, fun p hp => ?_⟩ (Ch.of1 (x := p) (fun a o e n => ?_) (fun a h => ?_) (fun a o n e => ?_) ⟨_, upd_same⟩)
    · show upd _ p _ p = _
      rw [upd_same]
      show some (HO.ins CB dx [("wheels", .ref x), ("now", .int 0), ("many", .int 0), ("alarms", .ref al)]) = _
      unfold bf
      rw [ex]
    · show upd _ p _ al = _
      rw [upd_ne npal.symm, upd_same]
    · rcases h with rfl | rfl | h
      · rw [upd_same]
        trivial
      · rw [upd_ne npal.symm, upd_same]
        trivial
      · have mm := W1.own a h
        obtain ⟨o, q⟩ := mut_some mm
        rw [on a o (fun z => nfp (z ▸ h)) q, ← q]
        exact mm
    · rintro rfl
      rcases z with z | ⟨xs, rfl⟩
      · exact nfp z
      · rw [hp1] at e
        cases e
    · constructor
      · rintro ⟨a, h, _⟩
        cases h
      · exact fun h => h.elim
    · obtain ⟨a, h, _⟩ := hp
      cases h
    · exact on a o n (C1.kp a o (s0 a o e) (ne_of_none e nx))
    · rcases h with rfl | rfl | h
      · exact .inl rfl
      · rcases back a hal1 with z | z
        · rw [z]
          exact .inr nx
        · exact .inr z
      · rcases C1.gr a h with rfl | z
        · exact .inr nx
        · right
          cases q : H a with
          | none => rfl
          | some o =>
            rw [s0 a o q] at z
            cases z
    · exact on a o n (C1.kp a o (s0 a o e) (ne_of_none e nx))
theorem scTime : FnScope ["self"] ["self"] (defScope sBook_time) := ⟨rfl, rfl, rfl, by decide +kernel, rfl, by decide +kernel, by decide +kernel⟩
theorem ok_Time {f : Addr} {fd : FuncData} (F : Fun K "time" "Book.time" sBook_time f fd) (T : Txt K mg CW CA CB CT CBad CPast CNot) : FnOk P w K mg base CX0 1 f fd ["self"] (spTime CW CA CB) := by
  refine F.ok scTime (fun vs H Q E h => ?_) (fun cdv A outer s H vs Q E hr h => ?_)
  · obtain ⟨A, F, S, L, now, tn, many, m, Wp, rfl, _⟩ := h
    rfl
  · obtain ⟨A, F, S, L, now, tn, many, m, Wp, rfl, b, k⟩ := h
    exact ⟨_, pss_one (ps_ret (pe_fld (pv 0) rfl)), ⟨_, rfl, A.x, CB, A.dx, _, _, rfl, b.ob, T.clB, T.bNow, bf_now, k⟩⟩
theorem scNeed : FnScope ["self", "number", "rests"] ["self", "number", "rests"] (defScope sBook_need) := ⟨rfl, rfl, rfl, by decide +kernel, rfl, by decide +kernel, by decide +kernel⟩
theorem ok_Need {f : Addr} {fd : FuncData} (F : Fun K "need" "Book.need" sBook_need f fd) (T : Txt K mg CW CA CB CT CBad CPast CNot) : FnOk P w K mg base (L2.CX P w) 1 f fd ["self", "number", "rests"] (spNeed CW CA CB CNot) := by
  refine F.okX scNeed (fun vs H Q E h => ?_) (fun cdv A outer s H vs Q E hr h => ?_)
  · obtain ⟨A, F, S, L, now, tn, many, m, Wp, n, r, rfl, _⟩ := h
    rfl
  · obtain ⟨A, F, S, L, now, tn, many, m, Wp, n, r, rfl, b, kN, kS⟩ := h
    have hu := hu_of hr
    refine ⟨_, pss_cons (ps_if (PW.pt (pw_or (pt_cmp (pc_dnotin hu (pv 1) (pe_fld (pv 0) rfl))) (pw_or1 (pt_cmpR op_ne (pe_cmp (pc_notN (pe_fld (pe_dget hu (pe_fld (pv 0) rfl) (pv 1) (fun _ _ => rfl)) rfl)) rfl) (pv 2) (nomark _)))))
        (pss_one (ps_raise rfl (takes_of rfl rfl rfl rfl) (pmk_own PySem.F.excBase_ValueError T.nott.ex T.nott.g T.nott.kp (raises_own T.nott.base T.nott.ty) rfl))) pss_nil)
      (pss_one (ps_ret (pe_dget hu (pe_fld (pv 0) rfl) (pv 1) (fun _ _ => rfl)))), ?_⟩
    refine ⟨_, rfl, _, rfl, A.x, CB, A.dx, _, _, rfl, b.ob, T.clB, T.bAlarms, bf_alarms, A.al, _, rfl, DGet.k (k := Sum.inl n) b.al, _, rfl, ?_⟩
    cases hm : m n with
    | none =>
      rw [b.no n hm]
      refine iteT ?_
      exact iteT (kN hm)
    | some a =>
      obtain ⟨y1, ⟨dx, wn, y2, y3⟩, _⟩ := b.yes n a hm
      obtain ⟨k1, k2⟩ := kS a hm
      rw [y1]
      refine iteF ?_
      refine ⟨_, rfl, A.x, CB, A.dx, _, _, rfl, b.ob, T.clB, T.bAlarms, bf_alarms, _, rfl, A.al, _, rfl, by rw [← y1]; exact DGet.k (k := Sum.inl n) b.al, A.aa n, CA, dx, _, _, rfl, y2, T.clA, T.aRest, af_rest, _, rfl, rfl, _, rfl, ?_⟩
      cases ha : a.rests with
      | true =>
        rw [ha] at k1 k2
        cases r with
        | true => exact ifNF (by rw [if_pos rfl]; rfl) ⟨_, rfl, A.x, CB, A.dx, _, _, rfl, b.ob, T.clB, T.bAlarms, bf_alarms, _, rfl, A.al, _, rfl, by rw [← y1]; exact DGet.k (k := Sum.inl n) b.al, k2 rfl⟩
        | false => exact ifNT (by rw [if_pos rfl]; intro z; cases z) (k1 (by decide))
      | false =>
        rw [ha] at k1 k2
        cases r with
        | true => exact ifNT (by rw [if_neg (by decide)]; intro z; cases z) (k1 (by decide))
        | false => exact ifNF (by rw [if_neg (by decide)]; rfl) ⟨_, rfl, A.x, CB, A.dx, _, _, rfl, b.ob, T.clB, T.bAlarms, bf_alarms, _, rfl, A.al, _, rfl, by rw [← y1]; exact DGet.k (k := Sum.inl n) b.al, k2 rfl⟩
theorem scDue : FnScope ["self", "number"] ["self", "number"] (defScope sBook_due) := ⟨rfl, rfl, rfl, by decide +kernel, rfl, by decide +kernel, by decide +kernel⟩
theorem ok_Due {f : Addr} {fd : FuncData} (F : Fun K "due" "Book.due" sBook_due f fd) (T : Txt K mg CW CA CB CT CBad CPast CNot) (GN : GMe P w K mg base (L2.CX P w) 1 CB "need" ["self", "number", "rests"] (spNeed CW CA CB CNot)) :
    FnOk P w K mg base CX0 2 f fd ["self", "number"] (spDue CW CA CB) := by
  obtain ⟨fN, fdN, mN, bN, GN⟩ := GN
  refine F.ok scDue (fun vs H Q E h => ?_) (fun cdv A outer s H vs Q E hr h => ?_)
  · obtain ⟨A, F, S, L, now, tn, many, m, Wp, n, a, rfl, _⟩ := h
    rfl
  · obtain ⟨A, F, S, L, now, tn, many, m, Wp, n, a, rfl, b, hm, ha, k⟩ := h
    refine ⟨_, pss_one (ps_ret (pe_fld (pe_meth (pv 0) T.clB mN GN hr bN .nil passL (pa_cons (pv 1) (pa_cons pe_bl pa_nil))) rfl)), ?_⟩
    obtain ⟨y1, ⟨dx, wn, y2, y3⟩, _⟩ := b.yes n a hm
    refine ⟨_, rfl, A.x, A.dx, _, rfl, b.ob, rfl, _, rfl, A, F, S, L, now, tn, many, m, Wp, n, false, rfl, b, fun z => ?_, fun c hc => ⟨fun z => ?_, fun _ => ?_⟩⟩
    · rw [hm] at z
      cases z
    · rw [hm] at hc
      cases hc
      exact absurd ha z
    · refine ⟨A.aa n, CA, dx, _, _, rfl, y2, T.clA, T.aWhen, af_when, ?_⟩
      rw [y3 ha]
      exact k
theorem scBSoon : FnScope ["self"] ["self"] (defScope sBook_soonest) := ⟨rfl, rfl, rfl, by decide +kernel, rfl, by decide +kernel, by decide +kernel⟩
theorem ok_BSoon {f : Addr} {fd : FuncData} (F : Fun K "soonest" "Book.soonest" sBook_soonest f fd) (T : Txt K mg CW CA CB CT CBad CPast CNot) (GS : GMe P w K mg base CX0 1 CW "soonest" ["self", "now"] (spSoonest CW)) :
    FnOk P w K mg base CX0 2 f fd ["self"] (spBSoon CW CA CB) := by
  obtain ⟨fN, fdN, mN, bN, GN⟩ := GS
  refine F.ok scBSoon (fun vs H Q E h => ?_) (fun cdv A outer s H vs Q E hr h => ?_)
  · obtain ⟨A, F, S, L, now, many, m, Wp, rfl, _⟩ := h
    rfl
  · obtain ⟨A, F, S, L, now, many, m, Wp, rfl, b, ha, k⟩ := h
    obtain ⟨R, far, W, G⟩ := b.wh
    refine ⟨_, pss_one (ps_ret (pe_meth (pe_fld (pv 0) rfl) T.clW mN GN hr bN .nil pass0 (pa_cons (pe_fld (pv 0) rfl) pa_nil))), ?_⟩
    exact ⟨_, rfl, A.x, CB, A.dx, _, _, rfl, b.ob, T.clB, T.bWheels, bf_wheels, A.wa.x, A.wa.dx, _, rfl, W.ob, rfl, _, rfl, A.x, CB, A.dx, _, _, rfl, b.ob, T.clB, T.bNow, bf_now, A.wa, A.fw, S, L, R, far, now, Wp, rfl, W, b.WS, G, ha, k⟩
end
end L2.TK
set_option Elab.async false
set_option linter.all false
set_option maxRecDepth 100000
set_option maxHeartbeats 4000000
namespace L2.TK
open PySem TkM
/-- waiting() (r = false), resting() (r = true) -/
def spList (CW CA CB : Addr) (r : Bool) : Sp := fun vs H Q _ => ∃ (A : BA) (F : Addr → Prop) (S : Int) (L : Nat) (now tn many : Int) (m : Mp Str) (Wp : Int × Int → Prop), vs = [.ref A.x] ∧ BAt CW CA CB H F A S L now tn many m Wp ∧ many ≤ 1000 ∧
  ∀ (p : Addr) (H' : Hp) (ns : List Int), H p = none → Same H H' → H' p = some (.lst (ns.map V.int)) → ns.Pairwise (· < ·) → (∀ n, n ∈ ns ↔ ∃ a, m n = some a ∧ a.rests = r) → Q (.ref p) H'
def restK (m : Mp Str) (r : Bool) : Key → Bool
  | .inl n => match m n with
    | some a => a.rests == r
    | none => false
  | .inr _ => false
theorem restK_some {m : Mp Str} {r : Bool} {n : Int} {a : Al Str} (h : m n = some a) : restK m r (.inl n) = (a.rests == r) := by
  show (match m n with | some a => a.rests == r | none => false) = _
  rw [h]
def keyN : Key → Int
  | .inl n => n
  | .inr _ => 0
section
variable {CW CA CB : Addr} {H : Hp} {F : Addr → Prop} {A : BA} {S : Int} {L : Nat} {now tn many : Int} {m : Mp Str} {Wp : Int × Int → Prop}
theorem valV_mem {κ : Type} [DecidableEq κ] : ∀ {kvs : List (κ × V)} {k : κ} {v : V}, (kvs.map (·.1)).Nodup → (k, v) ∈ kvs → valV kvs k = some v
  | [], _, _, _, h => by cases h
  | p :: r, k, v, nd, h => by
    obtain ⟨n1, n2⟩ := List.nodup_cons.mp (show (p.1 :: r.map (·.1)).Nodup from nd)
    rcases List.mem_cons.mp h with e | h
    · rw [← e]
      exact valV_pos rfl
    · have : ¬ p.1 = k := fun z => n1 (by rw [z]; exact List.mem_map.mpr ⟨_, h, rfl⟩)
      rw [valV_neg this]
      exact valV_mem n2 h
theorem mem_valV {κ : Type} [DecidableEq κ] : ∀ {kvs : List (κ × V)} {k : κ} {v : V}, valV kvs k = some v → (k, v) ∈ kvs
  | [], _, _, h => by cases h
  | p :: r, k, v, h => by
    by_cases e : p.1 = k
    · rw [valV_pos e] at h
      rw [← e, ← Option.some.inj h]
      exact List.mem_cons_self
    · rw [valV_neg e] at h
      exact List.mem_cons_of_mem _ (mem_valV h)
/-- a key of the book's dict is an alarm's number -/
theorem BAt.key (b : BAt CW CA CB H F A S L now tn many m Wp) {k : Key} {v : V} (h : (k, v) ∈ A.kvs) : ∃ n a, k = .inl n ∧ m n = some a ∧ v = .ref (A.aa n) ∧ AlAt CA H (A.aa n) a := by
  obtain ⟨n, e, _⟩ := b.ks _ h
  simp only at e
  subst e
  have hv := valV_mem b.nd h
  cases hm : m n with
  | none =>
    rw [b.no n hm] at hv
    cases hv
  | some a =>
    obtain ⟨y1, y2, _⟩ := b.yes n a hm
    rw [y1] at hv
    exact ⟨n, a, rfl, hm, (Option.some.inj hv).symm, y2⟩
/-- the numbers, filtered: each once, and just those -/
theorem BAt.nums (b : BAt CW CA CB H F A S L now tn many m Wp) (r : Bool) :
    ∃ ns : List Int, ((A.kvs.filter fun e => restK m r e.1).map fun e => kV e.1) = ns.map V.int ∧ ns.Nodup ∧ ∀ n, n ∈ ns ↔ ∃ a, m n = some a ∧ a.rests = r := by
  refine ⟨(A.kvs.filter fun e => restK m r e.1).map fun e => keyN e.1, ?_, ?_, fun n => ?_⟩
  · rw [List.map_map]
    refine List.map_congr_left fun e he => ?_
    obtain ⟨n, h, _⟩ := b.ks e (List.mem_filter.mp he).1
    show kV e.1 = V.int (keyN e.1)
    rw [h]
    rfl
  · have nd : ((A.kvs.filter fun e => restK m r e.1).map (·.1)).Nodup := (List.Sublist.map _ (List.filter_sublist (l := A.kvs))).nodup b.nd
    have nd2 := nd
    rw [List.nodup_iff_pairwise_ne, List.pairwise_map] at nd2 ⊢
    refine nd2.imp_of_mem fun {e f} he hf h z => h ?_
    obtain ⟨n, h1, _⟩ := b.ks e (List.mem_filter.mp he).1
    obtain ⟨j, h2, _⟩ := b.ks f (List.mem_filter.mp hf).1
    rw [h1, h2] at z ⊢
    exact congrArg Sum.inl z
  · rw [List.mem_map]
    constructor
    · rintro ⟨⟨k, v⟩, he, rfl⟩
      obtain ⟨h1, h2⟩ := List.mem_filter.mp he
      obtain ⟨j, a, rfl, hm, _⟩ := b.key h1
      refine ⟨a, hm, ?_⟩
      have h3 : restK m r (.inl j) = true := h2
      rw [restK_some hm] at h3
      simpa using h3
    · rintro ⟨a, hm, ha⟩
      obtain ⟨y1, _⟩ := b.yes n a hm
      refine ⟨(.inl n, .ref (A.aa n)), List.mem_filter.mpr ⟨mem_valV y1, ?_⟩, rfl⟩
      show restK m r (.inl n) = true
      rw [restK_some hm]
      simpa using ha
end
end L2.TK
set_option Elab.async false
set_option linter.all false
set_option maxRecDepth 100000
set_option maxHeartbeats 4000000
namespace L2.TK
open PySem TkM
def spSet (CW CA CB CPast : Addr) : Sp := fun vs H Q E => ∃ (A : BA) (F : Addr → Prop) (S : Int) (L : Nat) (now many : Int) (m : Mp Str) (nm : Str) (due : Int) (st : Option Int), vs = [.ref A.x, .str nm, .int due, optI st] ∧ Bk CW CA CB H F A S L now many m ∧ 0 ≤ many ∧ many ≤ 900 ∧ m many = none ∧
  ((due ≤ now ∨ ∃ s, st = some s ∧ s < 1) → E (.ref CPast) none H) ∧
  (now < due → (∀ s, st = some s → 1 ≤ s) → ∀ (A' : BA) (F' : Addr → Prop) (H' : Hp), A'.x = A.x → Bk CW CA CB H' F' A' S L now (many + 1) (setM m many (some ⟨nm, st, false, due⟩)) → Ch F F' H H' → Q (.int many) H')
def spRing (CW CA CB : Addr) : Sp := fun vs H Q _ => ∃ (A : BA) (F : Addr → Prop) (S : Int) (L : Nat) (now many : Int) (m : Mp Str) (Wp : Int × Int → Prop) (n : Int) (a : Al Str), vs = [.ref A.x, .int n] ∧ BAt CW CA CB H F A S L now now many m Wp ∧ m n = some a ∧ a.rests = false ∧ a.val = now ∧ Few Wp ∧
  (∀ s, a.step = some s → ¬ Wp (now + s, n)) ∧
  ∀ (A' : BA) (F' : Addr → Prop) (H' : Hp) (p : Addr), A'.x = A.x → BAt CW CA CB H' F' A' S L now now many (setM m n (After a)) (fun p => Wp p ∨ ∃ s, a.step = some s ∧ p = (now + s, n)) → Ch F F' H H' → H p = none → H' p = some (.tup [.int now, .int n, .str a.name]) → Q (.ref p) H'
def spStep (CW CA CB : Addr) : Sp := fun vs H Q _ => ∃ (A : BA) (F : Addr → Prop) (S : Int) (L : Nat) (now many t : Int) (m : Mp Str) (Wp : Int × Int → Prop), vs = [.ref A.x, .int t] ∧ BAt CW CA CB H F A S L now now many m Wp ∧ now ≤ t ∧ (∀ p, Wp p → t ≤ p.1) ∧ Few Wp ∧
  ∀ (A' : BA) (F' : Addr → Prop) (H' : Hp), A'.x = A.x → BAt CW CA CB H' F' A' S L t t many m Wp → Ch F F' H H' → Q .non H'
theorem wt_set {m : Mp Str} {n : Int} {a : Al Str} {p : Int × Int} (hm : m n = none) (ha : a.rests = false) : Wt (setM m n (some a)) p ↔ Wt m p ∨ p = (a.val, n) := by
  constructor
  · rintro ⟨b, h1, h2, h3⟩
    by_cases e : p.2 = n
    · rw [e, setM_same] at h1
      cases h1
      exact .inr (Prod.ext h3.symm e)
    · rw [setM_ne e] at h1
      exact .inl ⟨b, h1, h2, h3⟩
  · rintro (⟨b, h1, h2, h3⟩ | rfl)
    · have e : p.2 ≠ n := fun z => by
        rw [z, hm] at h1
        cases h1
      exact ⟨b, by rw [setM_ne e]; exact h1, h2, h3⟩
    · exact ⟨a, setM_same, ha, rfl⟩
section
variable {P : Program} {w : World} {K : PySem.W.Frag} {mg : Str → Option Value} {base : Heap} {CW CA CB CT CBad CPast CNot : Addr}
theorem scSet : FnScope ["book", "name", "due", "step", "number"] ["book", "name", "due", "step"] (defScope s_set_alarm) := ⟨rfl, rfl, rfl, by decide +kernel, rfl, by decide +kernel, by decide +kernel⟩
theorem ok_Set {f : Addr} {fd : FuncData} (F : Fun K "set_alarm" "set_alarm" s_set_alarm f fd) (T : Txt K mg CW CA CB CT CBad CPast CNot) (GP : GMe P w K mg base CX0 2 CW "put" ["self", "now", "due", "number"] (spPut CW)) (GA : GMk P w K mg base CX0 1 CA ["self", "name", "due", "step"] (spAInit CA)) :
    FnOk P w K mg base (L2.CX P w) 3 f fd ["book", "name", "due", "step"] (spSet CW CA CB CPast) := by
  obtain ⟨fP, fdP, mP, bP, GP⟩ := GP
  obtain ⟨fA, fdA, mA, bA, GA⟩ := GA
  refine F.okX scSet (fun vs H Q E h => ?_) (fun cdv A outer s H vs Q E hr h => ?_)
  · obtain ⟨A, F, S, L, now, many, m, nm, due, st, rfl, _⟩ := h
    rfl
  · obtain ⟨A, F, S, L, now, many, m, nm, due, st, rfl, ⟨b, ahead⟩, hm0, hm, hmn, kE, k⟩ := h
    have hu := hu_of hr
    refine ⟨_, C8.pss_cut (ps_if (PW.pt (pw_or (pt_cmpR op_le (pv 2) (pe_fld (pv 0) rfl) (nomark _)) (pw_or1 (PW.pt (pw_and (pt_cmp (pc_notN (pv 3))) (pw_and1 (pt_cmpR op_lt (pv 3) pe_int (nomark _))))))))
        (pss_one (ps_raise rfl (takes_of rfl rfl rfl rfl) (pmk_own PySem.F.excBase_ValueError T.past.ex T.past.g T.past.kp (raises_own T.past.base T.past.ty) rfl))) pss_nil)
      (pss_cons (ps_set (i := 4) scSet.nd rfl (Or.inl rfl) (pe_fld (pv 0) rfl))
      (pss_cons (ps_fld (pv 0) (pe_op op_add (pv 4) pe_int) rfl)
      (pss_cons (ps_dput hu (pe_fld (pv 0) rfl) (pv 4) (pe_make mA GA hr rfl T.mgA bA .nil pass0 (pa_cons (pv 1) (pa_cons (pv 2) (pa_cons (pv 3) pa_nil)))) rfl)
      (pss_cons (ps_expr (pe_meth (pe_fld (pv 0) rfl) T.clW mP GP hr bP .nil pass0 (pa_cons (pe_fld (pv 0) rfl) (pa_cons (pv 2) (pa_cons (pv 4) pa_nil)))))
      (pss_one (ps_ret (pv 4))))))), ?_⟩
    refine ⟨fun sg H' => sg = [some (.ref A.x), some (.str nm), some (.int due), some (optI st), none] ∧ H' = H ∧ now < due ∧ ∀ s, st = some s → 1 ≤ s, ?_, ?_⟩
    · refine ⟨_, rfl, _, rfl, A.x, CB, A.dx, _, _, rfl, b.ob, T.clB, T.bNow, bf_now, _, _, rfl, rfl, _, rfl, if2 (fun c => iteT (kE (.inl c))) fun c => ?_⟩
      refine ⟨_, rfl, _, rfl, ?_⟩
      cases st with
      | none =>
        refine iteF ?_
        exact iteF ⟨rfl, rfl, by omega, fun s h => (nomatch h)⟩
      | some s =>
        refine iteT ⟨_, rfl, _, _, rfl, rfl, _, rfl, if2 (fun c2 => kE (.inr ⟨s, rfl, c2⟩)) fun c2 => ⟨rfl, rfl, by omega, fun s' h => ?_⟩⟩
        cases h
        omega
    · rintro sg H0 ⟨rfl, rfl, hd, hs⟩
      refine ⟨_, rfl, A.x, CB, A.dx, _, _, rfl, b.ob, T.clB, T.bMany, bf_many, ?_⟩
      refine ⟨_, rfl, _, _, rfl, rfl, _, rfl, A.x, CB, A.dx, _, rfl, b.ob, T.clB, T.bMany, (by show 4 < 1000; decide), ?_⟩
      have b1 := b.setB (now' := now) (many' := many + 1) (by omega)
      have c1 : Ch F F H0 (upd H0 A.x (.ins CB A.dx (bf A.wa.x now (many + 1) A.al))) := Ch.upd b.fx (Same.refl H0)
      rw [bf_putMany]
      generalize upd H0 A.x (.ins CB A.dx (bf A.wa.x now (many + 1) A.al)) = H1 at b1 c1
      refine ⟨_, rfl, _, rfl, _, rfl, fun x dy nx ndy nex => ?_⟩
      refine ⟨x, dy, nm, due, optI st, rfl, upd_same, fun H3 e3 k3 => ⟨rfl, ?_⟩⟩
      have s3 : Same H1 H3 := fun a o e => by
        refine k3 a o ?_ (ne_of_none e nx)
        rw [upd_ne (ne_of_none e nx), upd_ne (ne_of_none e ndy)]
        exact e
      obtain ⟨b4, c4⟩ := b1.addAl (a := ⟨nm, st, false, due⟩) (p := x) hmn hm0 (by omega) nx s3 ⟨dy, due, e3, fun _ => rfl⟩ hs
      refine ⟨_, rfl, A.x, CB, A.dx, _, _, rfl, s3 _ _ b1.ob, T.clB, T.bAlarms, bf_alarms, _, rfl, A.al, _, rfl, DPut.k (k := Sum.inl many) (s3 _ _ b1.al) (small1000 (b.size (by omega))), ?_⟩
      generalize upd H3 A.al (.dK (putK A.kvs (Sum.inl many) (.ref x))) = H4 at b4 c4
      obtain ⟨R, far, W, G⟩ := b4.wh
      have few : Few (Wt m) := b.few (by omega)
      refine ⟨_, rfl, A.x, CB, A.dx, _, _, rfl, b4.ob, T.clB, T.bWheels, bf_wheels, A.wa.x, A.wa.dx, _, rfl, W.ob, rfl, _, rfl, A.x, CB, A.dx, _, _, rfl, b4.ob, T.clB, T.bNow, bf_now, _, rfl, _, rfl, A.wa, A.fw, S, L, R, far, now, due, many, rfl, W, b.WS, (G.lens few).1, (G.lens few).2, fun A5 F5 H5 ex5 W5 C5 => ?_⟩
      have nw : ¬ Wt m (due, many) := fun ⟨a, h, _⟩ => by
        rw [hmn] at h
        cases h
      obtain ⟨b5, c5⟩ := b4.wheels ex5 W5 (G.put nw) C5
      refine ⟨_, rfl, ?_⟩
      refine k hd hs _ _ H5 (by rfl) ⟨b5.congr fun p => wt_set (a := ⟨nm, st, false, due⟩) hmn rfl, fun p hp => ?_⟩ ((c1.trans c4).trans c5)
      rcases (wt_set (a := ⟨nm, st, false, due⟩) hmn rfl).mp hp with h | rfl
      · exact ahead p h
      · exact hd
theorem scRing : FnScope ["book", "number", "alarm"] ["book", "number"] (defScope s_ring) := ⟨rfl, rfl, rfl, by decide +kernel, rfl, by decide +kernel, by decide +kernel⟩
theorem ok_Ring {f : Addr} {fd : FuncData} (F : Fun K "ring" "ring" s_ring f fd) (T : Txt K mg CW CA CB CT CBad CPast CNot) (GP : GMe P w K mg base CX0 2 CW "put" ["self", "now", "due", "number"] (spPut CW)) :
    FnOk P w K mg base CX0 3 f fd ["book", "number"] (spRing CW CA CB) := by
  obtain ⟨fP, fdP, mP, bP, GP⟩ := GP
  refine F.ok scRing (fun vs H Q E h => ?_) (fun cdv A outer s H vs Q E hr h => ?_)
  · obtain ⟨A, F, S, L, now, many, m, Wp, n, a, rfl, _⟩ := h
    rfl
  · obtain ⟨A, F, S, L, now, many, m, Wp, n, a, rfl, b, hn, ha, hv, few, nw, k⟩ := h
    have hu := hu_of hr
    refine ⟨_, pss_cons (ps_set (i := 2) scRing.nd rfl (Or.inl rfl) (pe_dget hu (pe_fld (pv 0) rfl) (pv 1) (fun _ _ => rfl)))
      (pss_cons (ps_if (pt_cmp (pc_isN (pe_fld (pv 2) rfl))) (pss_one (ps_expr (pe_dpop1 (pe_fld (pv 0) rfl) (pv 1) ⟨rfl, rfl, rfl, rfl⟩)))
        (pss_cons (ps_fld (pv 2) (pe_op op_add (pe_fld (pv 0) rfl) (pe_fld (pv 2) rfl)) rfl)
          (pss_one (ps_expr (pe_meth (pe_fld (pv 0) rfl) T.clW mP GP hr bP .nil pass0 (pa_cons (pe_fld (pv 0) rfl) (pa_cons (pe_fld (pv 2) rfl) (pa_cons (pv 1) pa_nil))))))))
      (pss_one (ps_ret (pe_tup (pa_cons (pe_fld (pv 0) rfl) (pa_cons (pv 1) (pa_cons (pe_fld (pv 2) rfl) pa_nil))))))), ?_⟩
    obtain ⟨y1, ⟨dx, wn, y2, y3⟩, y4, y5, y6⟩ := b.yes n a hn
    have y3' := y3 ha
    subst y3'
    rw [ha, if_neg Bool.false_ne_true] at y2
    refine ⟨_, rfl, A.x, CB, A.dx, _, _, rfl, b.ob, T.clB, T.bAlarms, bf_alarms, _, rfl, A.al, _, rfl, by rw [← y1]; exact DGet.k (k := Sum.inl n) b.al, ?_⟩
    refine ⟨_, rfl, A.aa n, CA, dx, _, _, rfl, y2, T.clA, T.aStep, af_step, _, rfl, ?_⟩
    cases es : a.step with
    | none =>
      refine iteT ?_
      obtain ⟨b1, c1⟩ := b.popAl n
      refine ⟨_, rfl, A.x, CB, A.dx, _, _, rfl, b.ob, T.clB, T.bAlarms, bf_alarms, A.al, rfl, .inl ⟨_, .inl b.al⟩, _, rfl, _, Sum.inl n, _, b.al, rfl, y1, ?_⟩
      have e2 : upd H A.al (.dK (dropK A.kvs (Sum.inl n))) (A.aa n) = some (.ins CA dx (af a.name a.val (optI a.step) .non)) := by
        rw [upd_ne (ne_of y2 b.al (by intro z; cases z))]
        exact y2
      generalize upd H A.al (.dK (dropK A.kvs (Sum.inl n))) = H1 at b1 c1 e2
      refine ⟨_, rfl, A.x, CB, A.dx, _, _, rfl, b1.ob, T.clB, T.bNow, bf_now, _, rfl, _, rfl, A.aa n, CA, dx, _, _, rfl, e2, T.clA, T.aName, af_name, (by show 3 ≤ sizeLine; decide), fun p hp => ?_⟩
      have s1 := Same.new (o := .tup [.int now, .int n, .str a.name]) hp
      have hp0 : H p = none := c1.st p hp
      have e3 : After a = none := by
        unfold After
        rw [es]
      have ec : ∀ p, (Wp p ∨ ∃ s, a.step = some s ∧ p = (now + s, n)) ↔ Wp p := fun p => by
        rw [es]
        exact ⟨fun z => z.elim id fun ⟨s, z, _⟩ => (nomatch z), Or.inl⟩
      have b2 := (b1.same s1).congr ec
      rw [← e3] at b2
      exact k { A with kvs := dropK A.kvs (Sum.inl n) } F _ p rfl b2 (c1.trans (Same.ch s1)) hp0 upd_same
    | some st =>
      refine iteF ?_
      rw [es] at y2
      have hst : 1 ≤ st := b.stp n a st hn es
      refine ⟨_, rfl, A.x, CB, A.dx, _, _, rfl, b.ob, T.clB, T.bNow, bf_now, _, rfl, A.aa n, CA, dx, _, _, rfl, y2, T.clA, T.aStep, af_step, _, _, rfl, rfl, _, rfl, A.aa n, CA, dx, _, rfl, y2, T.clA, T.aWhen, (by show 4 < 1000; decide), ?_⟩
      rw [af_putWhen]
      have e3 : After a = some { a with val := a.val + st } := by
        unfold After
        rw [es]
      obtain ⟨b1, c1⟩ := b.updAl (n := n) (a := a) (a' := { a with val := a.val + st }) (dx := dx) (fs := af a.name (now + st) (optI (some st)) .non) hn ⟨dx, now + st, by rw [upd_same]; simp only [ha, es]; rfl, fun _ => by rw [hv]⟩ rfl
      have e2 : upd H (A.aa n) (.ins CA dx (af a.name (now + st) (optI (some st)) .non)) (A.aa n) = some (.ins CA dx (af a.name (now + st) (optI (some st)) .non)) := upd_same
      generalize upd H (A.aa n) (.ins CA dx (af a.name (now + st) (optI (some st)) .non)) = H1 at b1 c1 e2
      obtain ⟨R, far, W, G⟩ := b1.wh
      refine ⟨_, rfl, A.x, CB, A.dx, _, _, rfl, b1.ob, T.clB, T.bWheels, bf_wheels, A.wa.x, A.wa.dx, _, rfl, W.ob, rfl, _, rfl, A.x, CB, A.dx, _, _, rfl, b1.ob, T.clB, T.bNow, bf_now, _, rfl, A.aa n, CA, dx, _, _, rfl, e2, T.clA, T.aWhen, af_when, _, rfl, A.wa, A.fw, S, L, R, far, now, now + st, n, rfl, W, b.WS, (G.lens few).1, (G.lens few).2, fun A5 F5 H5 ex5 W5 C5 => ?_⟩
      obtain ⟨b5, c5⟩ := b1.wheels ex5 W5 (G.put (nw st es)) C5
      have e5 : H5 (A.aa n) = some (.ins CA dx (af a.name (now + st) (optI (some st)) .non)) := C5.kp _ _ e2 y5
      refine ⟨_, rfl, A.x, CB, A.dx, _, _, rfl, b5.ob, T.clB, T.bNow, bf_now, _, rfl, _, rfl, A.aa n, CA, dx, _, _, rfl, e5, T.clA, T.aName, af_name, (by show 3 ≤ sizeLine; decide), fun p hp => ?_⟩
      have s1 := Same.new (o := .tup [.int now, .int n, .str a.name]) hp
      have c15 := c1.trans c5
      have hp0 : H p = none := c15.st p hp
      have ec : ∀ p, (Wp p ∨ ∃ s, a.step = some s ∧ p = (now + s, n)) ↔ Wp p ∨ p = (now + st, n) := fun p => by
        rw [es]
        exact ⟨fun z => z.imp id fun ⟨s, z, y⟩ => (by cases z; exact y), fun z => z.imp id fun y => ⟨st, rfl, y⟩⟩
      have b6 := (b5.same s1).congr ec
      rw [← e3] at b6
      exact k { A with wa := A5, fw := F5 } _ _ p rfl b6 (c15.trans (Same.ch s1)) hp0 upd_same
end
end L2.TK
set_option Elab.async false
set_option linter.all false
set_option maxRecDepth 100000
set_option maxHeartbeats 4000000
namespace L2.TK
open PySem TkM
/-- what rings is bounded -/
def Few3 (m : Mp Str) (goal : Int) : Prop := ∀ l : List (Tr Str), l.Nodup → (∀ x, x ∈ l → Rings m x ∧ x.1 ≤ goal) → l.length ≤ 100000
def TsAt3 (H : Hp) (ts : List Addr) (xs : List (Tr Str)) : Prop := Paired (fun (t : Addr) (x : Tr Str) => H t = some (.tup [.int x.1, .int x.2.1, .str x.2.2])) ts xs
def TL (H : Hp) (a : Addr) (xs : List (Tr Str)) : Prop := ∃ ts : List Addr, H a = some (.lst (ts.map V.ref)) ∧ TsAt3 H ts xs
theorem TsAt3.keep {H H' : Hp} (k : ∀ a xs, H a = some (.tup xs) → H' a = some (.tup xs)) : ∀ {ts : List Addr} {ps : List (Tr Str)}, TsAt3 H ts ps → TsAt3 H' ts ps
  | _, _, .nil => .nil
  | _, _, .cons h t => .cons (k _ _ h) (TsAt3.keep k t)
theorem TsAt3.append {H : Hp} : ∀ {ts us : List Addr} {ps qs : List (Tr Str)}, TsAt3 H ts ps → TsAt3 H us qs → TsAt3 H (ts ++ us) (ps ++ qs)
  | _, _, _, _, .nil, h => h
  | _, _, _, _, .cons a t, h => .cons a (TsAt3.append t h)
theorem TsAt3.len {H : Hp} {ts : List Addr} {ps : List (Tr Str)} (h : TsAt3 H ts ps) : ts.length = ps.length := Paired.length h
theorem Ch.tup {F F' : Addr → Prop} {H H' : Hp} (c : Ch F F' H H') (own : ∀ a, F a → Mut (H a)) : ∀ a xs, H a = some (.tup xs) → H' a = some (.tup xs) := fun a xs e => c.kp a _ e fun z => by
  have := own a z
  rw [e] at this
  exact this
theorem Ch.out {F F' : Addr → Prop} {H H' : Hp} (c : Ch F F' H H') {a : Addr} {o : HO} (e : H a = some o) (n : ¬ F a) : ¬ F' a := fun z => by
  rcases c.gr a z with z | z
  · exact n z
  · rw [e] at z
    cases z
def spPass (CW CA CB CPast : Addr) : Sp := fun vs H Q E => ∃ (A : BA) (F : Addr → Prop) (S : Int) (L : Nat) (now many : Int) (m : Mp Str) (ticks : Int), vs = [.ref A.x, .int ticks] ∧ Bk CW CA CB H F A S L now many m ∧ many ≤ 900 ∧
  (ticks < 0 → E (.ref CPast) none H) ∧
  (0 ≤ ticks → Few3 m (now + ticks) ∧ ∀ (A' : BA) (F' : Addr → Prop) (H' : Hp) (told : List (Tr Str)) (p : Addr), A'.x = A.x → Bk CW CA CB H' F' A' S L (now + ticks) many (adv m (now + ticks)) → Told m (now + ticks) told → Ch F F' H H' →
    H p = none → ¬ F' p → TL H' p told → Q (.ref p) H')
section
variable {P : Program} {w : World} {K : PySem.W.Frag} {mg : Str → Option Value} {base : Heap} {CW CA CB CT CBad CPast CNot : Addr}
theorem scStep : FnScope ["book", "then"] ["book", "then"] (defScope s_step_to) := ⟨rfl, rfl, rfl, by decide +kernel, rfl, by decide +kernel, by decide +kernel⟩
theorem ok_Step {f : Addr} {fd : FuncData} (F : Fun K "step_to" "step_to" s_step_to f fd) (T : Txt K mg CW CA CB CT CBad CPast CNot) (GT : GMe P w K mg base CX0 3 CW "turn" ["self", "now", "then"] (spTurn CW)) :
    FnOk P w K mg base CX0 4 f fd ["book", "then"] (spStep CW CA CB) := by
  obtain ⟨fT, fdT, mT, bT, GT⟩ := GT
  refine F.ok scStep (fun vs H Q E h => ?_) (fun cdv A outer s H vs Q E hr h => ?_)
  · obtain ⟨A, F, S, L, now, many, t, m, Wp, rfl, _⟩ := h
    rfl
  · obtain ⟨A, F, S, L, now, many, t, m, Wp, rfl, b, h1, h2, few, k⟩ := h
    obtain ⟨R, far, W, G⟩ := b.wh
    refine ⟨_, pss_cons (ps_expr (pe_meth (pe_fld (pv 0) rfl) T.clW mT GT hr bT .nil pass0 (pa_cons (pe_fld (pv 0) rfl) (pa_cons (pv 1) pa_nil)))) (pss_one (ps_fld (pv 0) (pv 1) rfl)), ?_⟩
    refine ⟨_, rfl, A.x, CB, A.dx, _, _, rfl, b.ob, T.clB, T.bWheels, bf_wheels, A.wa.x, A.wa.dx, _, rfl, W.ob, rfl, _, rfl, A.x, CB, A.dx, _, _, rfl, b.ob, T.clB, T.bNow, bf_now, _, rfl, A.wa, A.fw, S, L, R, far, now, t, Wp, rfl, W, b.WS, G, h1, h2, few, fun A5 F5 H5 R5 far5 ex5 W5 G5 C5 => ?_⟩
    obtain ⟨b5, c5⟩ := b.wheels ex5 W5 G5 C5
    refine ⟨_, rfl, _, rfl, A.x, CB, A.dx, _, rfl, b5.ob, T.clB, T.bNow, (by show 4 < 1000; decide), ?_⟩
    have b6 := b5.setB (now' := t) (many' := many) (Int.le_refl _)
    rw [bf_putNow]
    exact k { A with wa := A5, fw := F5 } _ _ rfl b6 (c5.trans (Ch.upd b5.fx (Same.refl _)))
def SoonT (Wp : Int × Int → Prop) (tv : V) : Prop := (tv = .non ∧ ∀ p, ¬ Wp p) ∨ ∃ d n, tv = .int d ∧ Wp (d, n) ∧ ∀ p, Wp p → d ≤ p.1
theorem soonV_of {Wp : Int × Int → Prop} {Q : VK} {H : Hp} (h : ∀ tv, SoonT Wp tv → Q tv H) : SoonV Wp Q H := ⟨fun n => h _ (.inl ⟨rfl, n⟩), fun d n a b => h _ (.inr ⟨d, n, rfl, a, b⟩)⟩
/-- between two turns of the while -/
def PassI (CW CA CB : Addr) (H : Hp) (F : Addr → Prop) (x : Addr) (S : Int) (L : Nat) (now many : Int) (m : Mp Str) (goal ticks : Int) (sg : St) (H' : Hp) : Prop :=
  ∃ (A' : BA) (F' : Addr → Prop) (m' : Mp Str) (told : List (Tr Str)) (p : Addr) (t : Int) (tv : V) (v5 : Option V), sg = [some (.ref x), some (.int ticks), some (.int goal), some (.ref p), some tv, v5] ∧ A'.x = x ∧ BAt CW CA CB H' F' A' S L t t many m' (Wt m') ∧
    (∀ p, Wt m' p → t < p.1) ∧ now ≤ t ∧ t ≤ goal ∧ Part m m' told ∧ (∀ x ∈ told, x.1 ≤ goal) ∧ Ch F F' H H' ∧ H p = none ∧ ¬ F' p ∧ TL H' p told ∧
    SoonT (Wt m') tv
def passM (goal : Int) (sg : St) : Nat := match sg[4]? with
  | some (some (V.int t)) => (goal + 1 - t).toNat
  | _ => 0
theorem BAt.off {CW CA CB : Addr} {H : Hp} {F : Addr → Prop} {A : BA} {S : Int} {L : Nat} {now tn many : Int} {m : Mp Str} {Wp : Int × Int → Prop} (b : BAt CW CA CB H F A S L now tn many m Wp) {D : Addr} {xs : List V} {o : HO} (hD : H D = some (.lst xs)) (nD : ¬ F D) :
    BAt CW CA CB (upd H D o) F A S L now tn many m Wp := b.keep fun a o' e z => by
  have n : a ≠ D := fun q => by
    rcases z with z | ⟨ys, rfl⟩
    · exact nD (q ▸ z)
    · rw [q, hD] at e
      cases e
  rw [upd_ne n]
  exact e
theorem upd_tup {H : Hp} {D : Addr} {xs : List V} {o : HO} (hD : H D = some (.lst xs)) : ∀ a ys, H a = some (.tup ys) → upd H D o a = some (.tup ys) := fun a ys e => by
  rw [upd_ne (ne_of e hD (by intro z; cases z))]
  exact e
theorem chB {F F' : Addr → Prop} {H H' : Hp} {D : Addr} {xs : List V} {o : HO} (c : Ch F F' H H') (hD : H' D = some (.lst xs)) (h0 : H D = none) : Ch F F' H (upd H' D o) :=
  ⟨fun a u e n => by
    rw [upd_ne (ne_of_none e h0)]
    exact c.kp a u e n, c.gr, fun a z => by
    by_cases q : a = D
    · rw [q]
      exact h0
    · rw [upd_ne q] at z
      exact c.st a z⟩
theorem scPass : FnScope ["book", "ticks", "goal", "told", "then", "number"] ["book", "ticks"] (defScope s_pass_ticks) := ⟨rfl, rfl, rfl, by decide +kernel, rfl, by decide +kernel, by decide +kernel⟩
theorem ok_Pass {f : Addr} {fd : FuncData} (F : Fun K "pass_ticks" "pass_ticks" s_pass_ticks f fd) (T : Txt K mg CW CA CB CT CBad CPast CNot) (GS : GFn P w K mg base CX0 4 "step_to" ["book", "then"] (spStep CW CA CB))
    (GR : GFn P w K mg base CX0 3 "ring" ["book", "number"] (spRing CW CA CB)) (GT : GMe P w K mg base CX0 1 CW "take_now" ["self", "now"] (spTake CW)) (GN : GMe P w K mg base CX0 2 CB "soonest" ["self"] (spBSoon CW CA CB)) :
    FnOk P w K mg base (L2.CX P w) 5 f fd ["book", "ticks"] (spPass CW CA CB CPast) := by
  obtain ⟨fS, fdS, gS, kS, bS, GS⟩ := GS
  obtain ⟨fR, fdR, gR, kR, bR, GR⟩ := GR
  obtain ⟨fT, fdT, mT, bT, GT⟩ := GT
  obtain ⟨fN, fdN, mN, bN, GN⟩ := GN
  refine F.okX scPass (fun vs H Q E h => ?_) (fun cdv A outer s H vs Q E hr h => ?_)
  · obtain ⟨A, F, S, L, now, many, m, ticks, rfl, _⟩ := h
    rfl
  · obtain ⟨A, F, S, L, now, many, m, ticks, rfl, ⟨b, ahead⟩, hm, kE, k⟩ := h
    have hr4 : Room 4 _ := hr
    have hr3 : Room 3 _ := hr.mono (by decide)
    have hr2 : Room 2 _ := hr.mono (by decide)
    have hr1 : Room 1 _ := hr.mono (by decide)
    refine ⟨_, pss_cons (ps_if (pt_cmpR op_lt (pv 1) pe_int (nomark _)) (pss_one (ps_raise rfl (takes_of rfl rfl rfl rfl) (pmk_own PySem.F.excBase_ValueError T.past.ex T.past.g T.past.kp (raises_own T.past.base T.past.ty) rfl))) pss_nil)
      (pss_cons (ps_set (i := 2) scPass.nd rfl (Or.inl rfl) (pe_op op_add (pe_fld (pv 0) rfl) (pv 1)))
      (pss_cons (ps_set (i := 3) scPass.nd rfl (Or.inl rfl) (pe_lst pa_nil))
      (pss_cons (ps_set (i := 4) scPass.nd rfl (Or.inl rfl) (pe_meth0 (pv 0) T.clB mN GN hr2 bN .nil pass0))
      (C8.pss_cut (ps_while (passes_of rfl) (PW.pt (pw_and (pt_cmp (pc_notN (pv 4))) (pw_and1 (pt_cmpR op_le (pv 4) (pv 2) (nomark _)))))
        (pss_cons (ps_expr (pe_call GS hr4 rfl gS kS bS .nil pass0 (pa_cons (pv 0) (pa_cons (pv 4) pa_nil))))
        (pss_cons (ps_expr (pe_bm PySem.F.plainAttrs_list PySem.F.slot_list_extend PySem.F.type_list_extend mt_extend (pv 3) (pa_cons
          (pe_lc (own := [("number", 5)]) (g := gName 5) (tt := tYes) (te := tCall (spRing CW CA CB) [] E0 (tCons (tVar 0) (tCons (tVar 5) tNil))) rfl scPass.nd (pi_list (pe_meth (pe_fld (pv 0) rfl) T.clW mT GT hr1 bT .nil pass0 (pa_cons (pv 4) pa_nil)))
            (blkOk_by (own := [("number", 5)]) (N := ["book", "ticks", "goal", "told", "then", "number"]) (sc := defScope s_pass_ticks) (by decide +kernel)) (fun _ _ _ _ _ => pg_name (i := 5) scPass.nd rfl (Or.inl rfl)) (fun _ _ _ _ _ => pts_nil)
            (fun _ _ _ _ _ => pe_call GR hr3 rfl gR kR bR .nil pass0 (pa_cons (pv 0) (pa_cons (pv 5) pa_nil)))) pa_nil)))
        (pss_one (ps_set (i := 4) scPass.nd rfl (Or.inl rfl) (pe_meth0 (pv 0) T.clB mN GN hr2 bN .nil pass0))))))
      (pss_cons (ps_expr (pe_call GS hr4 rfl gS kS bS .nil pass0 (pa_cons (pv 0) (pa_cons (pv 2) pa_nil))))
      (pss_one (ps_ret (pv 3)))))))), ?_⟩
    refine ⟨_, rfl, _, _, rfl, rfl, _, rfl, if2 kE fun c => ?_⟩
    obtain ⟨few3, k⟩ := k (by omega)
    have few : Few (Wt m) := b.few (by omega)
    refine ⟨_, rfl, A.x, CB, A.dx, _, _, rfl, b.ob, T.clB, T.bNow, bf_now, _, rfl, _, _, rfl, rfl, ?_⟩
    refine ⟨Nat.zero_le _, fun p hp => ?_⟩
    have s1 := Same.new (o := .lst []) hp
    have b1 := b.same s1
    refine ⟨_, rfl, A.x, A.dx, _, rfl, b1.ob, rfl, A, F, S, L, now, many, m, Wt m, rfl, b1, ahead, fun H2 s2 => soonV_of fun tv htv => ?_⟩
    have npF : ¬ F p := fun z => by
      have := b.own p z
      rw [hp] at this
      exact this
    have s12 := s1.trans s2
    have gl : now ≤ now + ticks := by omega
    obtain ⟨goal, eg⟩ : ∃ g, g = now + ticks := ⟨_, rfl⟩
    rw [← eg] at few3 k gl
    refine ⟨fun sg H' => ∃ tv, PassI CW CA CB H F A.x S L now many m goal ticks sg H' ∧ sg[4]? = some (some tv) ∧ (tv = .non ∨ ∃ d, tv = .int d ∧ goal < d), ?_, ?_⟩
    · refine while_by (fun sg H' => PassI CW CA CB H F A.x S L now many m goal ticks sg H') (fun sg _ => passM goal sg) ?_ ?_ ?_
      · exact ⟨A, F, m, [], p, now, tv, none, by subst eg; rfl, rfl, b.same s12, ahead, Int.le_refl _, gl, Part.start b.stp, fun x h => (nomatch h), Same.ch s12, hp, npF, ⟨[], s2 _ _ upd_same, .nil⟩, htv⟩
      · rintro sg H3 ⟨A3, F3, m3, told, p, t, tv, v5, rfl, ex3, b3, ahead3, l1, l2, P3, tl3, C3, hp3, np3, ⟨ts, t1, t2⟩, htv⟩
        have hI : PassI CW CA CB H F A.x S L now many m goal ticks [some (.ref A.x), some (.int ticks), some (.int goal), some (.ref p), some tv, v5] H3 := ⟨A3, F3, m3, told, p, t, tv, v5, rfl, ex3, b3, ahead3, l1, l2, P3, tl3, C3, hp3, np3, ⟨ts, t1, t2⟩, htv⟩
        refine ⟨_, rfl, _, rfl, ?_⟩
        rcases htv with ⟨rfl, hno⟩ | ⟨d, n0, rfl, hd, hmin⟩
        · refine iteF ?_
          exact iteF ⟨_, hI, rfl, .inl rfl⟩
        refine iteT ⟨_, rfl, _, rfl, _, _, rfl, rfl, _, rfl, ?_⟩
        by_cases hle : d ≤ goal
        rotate_left
        · exact ifF hle ⟨_, hI, rfl, .inr ⟨d, rfl, by omega⟩⟩
        refine ifT hle ?_
        have td : t < d := ahead3 _ hd
        have few3' : Few (Wt m3) := b3.few (by omega)
        refine ⟨_, rfl, _, rfl, A3, F3, S, L, t, many, d, m3, Wt m3, by rw [ex3]; rfl, b3, by omega, hmin, few3', fun A4 F4 H4 ex4 b4 C4 => ?_⟩
        have np4 := C4.out t1 np3
        have t1' : H4 p = some (.lst (ts.map V.ref)) := C4.kp _ _ t1 np3
        have t2' : TsAt3 H4 ts told := t2.keep (C4.tup b3.own)
        have C34 := C3.trans C4
        obtain ⟨R4, far4, W4, G4⟩ := b4.wh
        have b4o := b4.ob
        rw [ex4, ex3] at b4o
        refine ⟨_, rfl, .inl ⟨rfl, _, SqL.of t1'⟩, ?_⟩
        refine ⟨_, rfl, A.x, CB, A4.dx, _, _, rfl, b4o, T.clB, T.bWheels, bf_wheels, A4.wa.x, A4.wa.dx, _, rfl, W4.ob, rfl, _, rfl, A4.wa, A4.fw, S, L, R4, far4, d, Wt m3, rfl, W4, b4.WS, G4, few3', fun A5 F5 H5 R5 p2 ns ex5 W5 G5 C5 hp2 np2 e2 srt mem => ?_⟩
        obtain ⟨b5, c5⟩ := b4.wheels ex5 W5 G5 C5
        have t15 : H5 p = some (.lst (ts.map V.ref)) := c5.kp _ _ t1' np4
        have t25 : TsAt3 H5 ts told := t2'.keep (c5.tup b4.own)
        have np5 := c5.out t1' np4
        have C5' := C34.trans c5
        have np25 : ¬ ((F4 p2 ∧ ¬ A4.fw p2) ∨ F5 p2) := by
          rintro (⟨z, _⟩ | z)
          · have := b4.own _ z
            rw [hp2] at this
            exact this
          · exact np2 z
        have nsl : ns.length ≤ 1000 := by
          have := few3' (ns.map fun n => (d, n)) ?_ ?_
          · simpa using this
          · rw [List.nodup_iff_pairwise_ne, List.pairwise_map]
            refine srt.imp fun {a b} h e => ?_
            have := congrArg Prod.snd e
            simp only at this
            omega
          · intro q hq
            obtain ⟨n, hn, rfl⟩ := List.mem_map.mp hq
            exact (mem n).mp hn
        refine ⟨p2, rfl, ⟨_, SqL.of e2⟩, fun D hD => ?_⟩
        have sD := Same.new (o := .lst []) hD
        have pD : p ≠ D := ne_of_none t15 hD
        have p2D : p2 ≠ D := ne_of_none e2 hD
        have nD5 : ¬ ((F4 D ∧ ¬ A4.fw D) ∨ F5 D) := fun z => by
          have := b5.own D z
          rw [hD] at this
          exact this
        have hD0 : H D = none := C5'.st D hD
        refine lc_list (K := K) (a := p2) (xs := ns.map V.int) (fun i H' => ∃ (A6 : BA) (F6 : Addr → Prop) (m6 : Mp Str) (new : List (Tr Str)) (us : List Addr), BAt CW CA CB H' F6 A6 S L d d many m6 (fun q => Wt m6 q ∧ q.1 ≠ d) ∧ A6.x = A.x ∧ Part m m6 (told ++ new) ∧ (∀ x ∈ new, x.1 = d) ∧
          (∀ q, Wt m6 q → d ≤ q.1) ∧ (∀ n, Wt m6 (d, n) ↔ n ∈ ns.drop i) ∧ Ch F F6 H H' ∧ ¬ F6 p ∧ H' p = some (.lst (ts.map V.ref)) ∧ TsAt3 H' ts told ∧ ¬ F6 D ∧ H' D = some (.lst (us.map V.ref)) ∧ TsAt3 H' us new ∧ ¬ F6 p2 ∧ H' p2 = some (.lst (ns.map V.int))) ?_ ?_ ?_ ?_
        · refine ⟨{ A4 with wa := A5, fw := F5 }, _, m3, [], [], b5.same sD, ex4.trans ex3, by rw [List.append_nil]; exact P3, fun x h => (nomatch h), hmin, fun n => ?_, C5'.trans (Same.ch sD), np5, sD _ _ t15, t25.keep fun a xs e => sD _ _ e, nD5, upd_same, .nil, np25, sD _ _ e2⟩
          rw [List.drop_zero]
          exact (mem n).symm
        · rintro i H6 _ ⟨_, _, _, _, _, _, _, _, _, _, _, _, _, _, _, _, _, _, _, e⟩
          exact SqL.of e
        · rintro i y H6 hi ⟨A6, F6, m6, new, us, b6, ex6, P6, new6, min6, dr6, C6, np6, t16, t26, nD6, hD6, u26, np26, e26⟩
          obtain ⟨n, hn, rfl⟩ : ∃ n, ns[i]? = some n ∧ y = V.int n := by
            rw [List.getElem?_map] at hi
            cases e : ns[i]? with
            | none =>
              rw [e] at hi
              cases hi
            | some z =>
              rw [e] at hi
              exact ⟨z, rfl, (Option.some.inj hi).symm⟩
          obtain ⟨hil, hin⟩ := List.getElem?_eq_some_iff.mp hn
          have edrop : ns.drop i = n :: ns.drop (i + 1) := by
            rw [List.drop_eq_getElem_cons hil, hin]
          obtain ⟨a, a1, a2, a3⟩ := (dr6 n).mpr (by rw [edrop]; exact List.mem_cons_self)
          simp only at a1 a3
          have srt' : (ns.drop i).Pairwise (· < ·) := srt.sublist (List.drop_sublist _ _)
          rw [edrop, List.pairwise_cons] at srt'
          have P7 := P6.ring a1 a2 fun q hq => by
            have h1 := min6 q hq
            by_cases h2 : q.1 = d
            · have h3 := (dr6 q.2).mp (by rw [← h2]; exact hq)
              rw [edrop] at h3
              rcases List.mem_cons.mp h3 with h3 | h3
              · exact .inl (Prod.ext (by rw [a3]; exact h2) h3)
              · exact .inr (.inr ⟨by rw [a3]; exact h2.symm, srt'.1 _ h3⟩)
            · exact .inr (.inl (by omega))
          have wt7 : ∀ q, Wt (setM m6 n (After a)) q ↔ (q.2 ≠ n ∧ Wt m6 q) ∨ ∃ s, a.step = some s ∧ q = (d + s, n) := fun q => by
            constructor
            · rintro ⟨c, c1, c2, c3⟩
              by_cases e : q.2 = n
              · rw [e, setM_same] at c1
                unfold After at c1
                cases es : a.step with
                | none =>
                  rw [es] at c1
                  cases c1
                | some s =>
                  rw [es] at c1
                  cases c1
                  simp only at c3
                  exact .inr ⟨s, rfl, Prod.ext (by rw [← a3]; exact c3.symm) e⟩
              · rw [setM_ne e] at c1
                exact .inl ⟨e, c, c1, c2, c3⟩
            · rintro (⟨e, c, c1, c2, c3⟩ | ⟨s, es, rfl⟩)
              · exact ⟨c, by rw [setM_ne e]; exact c1, c2, c3⟩
              · refine ⟨{ a with val := a.val + s }, ?_, a2, by rw [← a3]⟩
                show setM m6 n (After a) n = _
                rw [setM_same]
                unfold After
                rw [es]
          have nowt : ∀ q, Wt m6 q → q.2 = n → q.1 = d := fun q ⟨c, c1, _, c3⟩ e => by
            rw [e, a1] at c1
            cases c1
            rw [← c3, a3]
          have pos : ∀ s, a.step = some s → 1 ≤ s := fun s hs => b6.stp n a s a1 hs
          refine ⟨rfl, ?_⟩
          refine ⟨_, rfl, _, rfl, A6, F6, S, L, d, many, m6, (fun q => Wt m6 q ∧ q.1 ≠ d), n, a, by rw [ex6]; rfl, b6, a1, a2, a3, (b6.few (by omega)).sub fun q z => z.1, fun s hs z => ?_, fun A7 F7 H7 p7 ex7 b7 C7 hp7 e7 => ?_⟩
          · have := nowt _ z.1 rfl
            exact z.2 this
          have nD7 := C7.out hD6 nD6
          have hD7 : H7 D = some (.lst (us.map V.ref)) := C7.kp _ _ hD6 nD6
          have tk7 := C7.tup b6.own
          have bound : (told ++ (new ++ [(d, n, a.name)])).length ≤ 100000 := by
            have P8 := P7
            rw [List.append_assoc, a3] at P8
            refine few3 _ (told_nodup P8.srt) fun x hx => ⟨(P8.all x).mpr (.inl hx), ?_⟩
            rcases List.mem_append.mp hx with h | h
            · exact tl3 x h
            · rcases List.mem_append.mp h with h | h
              · rw [new6 x h]
                exact hle
              · rw [List.mem_singleton.mp h]
                exact hle
          refine ⟨_, hD7, Nat.lt_of_le_of_lt (m := 100000) ?_ (by decide), ?_⟩
          · rw [List.length_map, TsAt3.len u26]
            rw [List.length_append, List.length_append] at bound
            omega
          have tkD := upd_tup (o := .lst (us.map V.ref ++ [V.ref p7])) hD7
          refine ⟨A7, F7, _, new ++ [(d, n, a.name)], us ++ [p7], (b7.off hD7 nD7).congr fun q => ?_, ex7.trans ex6, by rw [← List.append_assoc]; rw [a3] at P7; exact P7, fun x hx => ?_, fun q hq => ?_, fun j => ?_, chB (C6.trans C7) hD7 hD0, C7.out t16 np6, ?_, (t26.keep tk7).keep tkD, nD7, by rw [upd_same, List.map_append]; rfl, ?_, C7.out e26 np26, ?_⟩
          · rw [wt7]
            constructor
            · rintro ⟨z | ⟨s, h1, h2⟩, h3⟩
              · exact .inl ⟨z.2, h3⟩
              · exact .inr ⟨s, h1, h2⟩
            · rintro (z | ⟨s, h1, rfl⟩)
              · exact ⟨.inl ⟨fun e => z.2 (nowt q z.1 e), z.1⟩, z.2⟩
              · have := pos s h1
                exact ⟨.inr ⟨s, h1, rfl⟩, by show d + s ≠ d; omega⟩
          · rcases List.mem_append.mp hx with h | h
            · exact new6 x h
            · rw [List.mem_singleton.mp h]
          · rcases (wt7 q).mp hq with ⟨_, z⟩ | ⟨s, h1, rfl⟩
            · exact min6 q z
            · have := pos s h1
              show d ≤ d + s
              omega
          · rw [wt7]
            constructor
            · rintro (⟨h1, h2⟩ | ⟨s, h1, h2⟩)
              · have := (dr6 j).mp h2
                rw [edrop] at this
                exact (List.mem_cons.mp this).resolve_left h1
              · have h3 := congrArg Prod.fst h2
                have := pos s h1
                simp only at h3
                omega
            · intro hj
              refine .inl ⟨fun e => ?_, (dr6 j).mpr (by rw [edrop]; exact List.mem_cons_of_mem _ hj)⟩
              have := srt'.1 j hj
              simp only at e
              omega
          · rw [upd_ne pD]
            exact C7.kp _ _ t16 np6
          · refine ((u26.keep tk7).keep tkD).append (.cons ?_ .nil)
            exact tkD _ _ e7
          · rw [upd_ne p2D]
            exact C7.kp _ _ e26 np26
        · rintro H6 ⟨A6, F6, m6, new, us, b6, ex6, P6, new6, min6, dr6, C6, np6, t16, t26, nD6, hD6, u26, np26, e26⟩
          have no6 : ∀ n, ¬ Wt m6 (d, n) := fun n z => by
            have := (dr6 n).mp z
            rw [List.length_map, List.drop_length] at this
            cases this
          have ah6 : ∀ q, Wt m6 q → d < q.1 := fun q z => by
            have h1 := min6 q z
            have h2 : q.1 ≠ d := fun e => no6 q.2 (by rw [← e]; exact z)
            omega
          have tl6 : ∀ x ∈ told ++ new, x.1 ≤ goal := fun x hx => by
            rcases List.mem_append.mp hx with h | h
            · exact tl3 x h
            · rw [new6 x h]
              exact hle
          have bound : (told ++ new).length ≤ 100000 := few3 _ (told_nodup P6.srt) fun x hx => ⟨(P6.all x).mpr (.inl hx), tl6 x hx⟩
          refine ⟨p, D, _, _, rfl, rfl, t16, hD6, Nat.le_trans (m := 100000) ?_ (by decide), ?_⟩
          · rw [List.length_map, List.length_map, TsAt3.len t26, TsAt3.len u26]
            rw [List.length_append] at bound
            exact bound
          have b7 := (b6.off (o := .lst (ts.map V.ref ++ us.map V.ref)) t16 np6).congr (Wp' := Wt m6) fun q => ⟨fun z => ⟨z, by have := ah6 q z; omega⟩, fun z => z.1⟩
          have tkp := upd_tup (o := .lst (ts.map V.ref ++ us.map V.ref)) t16
          have C7 := chB (o := .lst (ts.map V.ref ++ us.map V.ref)) C6 t16 hp3
          have b7o := b7.ob
          rw [ex6] at b7o
          refine ⟨_, rfl, A.x, A6.dx, _, rfl, b7o, rfl, A6, F6, S, L, d, many, m6, Wt m6, by rw [ex6]; rfl, b7, ah6, fun H8 s8 => soonV_of fun tv' htv' => ?_⟩
          refine ⟨⟨A6, F6, m6, told ++ new, p, d, tv', _, rfl, ex6, b7.same s8, ah6, by omega, hle, P6, tl6, C7.trans (Same.ch s8), hp3, np6, ⟨ts ++ us, s8 _ _ (by rw [upd_same, List.map_append]), ((t26.keep tkp).append (u26.keep tkp)).keep fun a xs e => s8 _ _ e⟩, htv'⟩, ?_⟩
          rcases htv' with ⟨rfl, _⟩ | ⟨d', n', rfl, hd', _⟩
          · show 0 < (goal + 1 - d).toNat
            omega
          · have := ah6 _ hd'
            show (goal + 1 - d').toNat < (goal + 1 - d).toNat
            simp only at this
            omega
      · rintro sg H3 Q1 Q2 hq ⟨v, hv, x, hx, q⟩
        refine ⟨v, hv, x, hx, ?_⟩
        cases x with
        | false => exact iteF (hq _ _ (by simpa using q))
        | true =>
          have q : tTest (tOp (rI0 fun i j => V.bl (decide (i ≤ j))) (tVar 4) (tVar 2)) sg H3 Q1 := q
          obtain ⟨u1, h1, u2, h2, i, j, e1, e2, k', e3, q⟩ := q
          exact iteT ⟨u1, h1, u2, h2, i, j, e1, e2, k', e3, hq _ _ q⟩
    · rintro sg H3 ⟨tv, ⟨A3, F3, m3, told, p, t, tv', v5, rfl, ex3, b3, ahead3, l1, l2, P3, tl3, C3, hp3, np3, ⟨ts, t1, t2⟩, htv⟩, e4, hend⟩
      cases e4
      have done : ∀ q, Wt m3 q → goal < q.1 := fun q hq => by
        rcases htv with ⟨_, hno⟩ | ⟨d, n0, rfl, hd, hmin⟩
        · exact absurd hq (hno q)
        · rcases hend with hend | ⟨d', e, h⟩
          · cases hend
          · cases e
            have := hmin q hq
            omega
      obtain ⟨T3, em⟩ := P3.done done tl3
      refine ⟨_, rfl, _, rfl, A3, F3, S, L, t, many, goal, m3, Wt m3, by rw [ex3]; rfl, b3, l2, fun q hq => Int.le_of_lt (done q hq), b3.few (by omega), fun A4 F4 H4 ex4 b4 C4 => ?_⟩
      refine ⟨_, rfl, ?_⟩
      rw [em] at b4 done
      exact k A4 F4 H4 told p (ex4.trans ex3) ⟨b4, done⟩ T3 (C3.trans C4) hp3 (C4.out t1 np3) ⟨ts, C4.kp _ _ t1 np3, t2.keep (C4.tup b3.own)⟩
end
end L2.TK
set_option Elab.async false
set_option linter.all false
set_option maxRecDepth 100000
set_option maxHeartbeats 4000000
namespace L2.TK
open PySem TkM
theorem wt_at {m : Mp Str} {n : Int} {o : Option (Al Str)} {q : Int × Int} : Wt (setM m n o) q ↔ (q.2 ≠ n ∧ Wt m q) ∨ ∃ a, o = some a ∧ a.rests = false ∧ q = (a.val, n) := by
  constructor
  · rintro ⟨a, h1, h2, h3⟩
    by_cases e : q.2 = n
    · rw [e, setM_same] at h1
      exact .inr ⟨a, h1, h2, Prod.ext h3.symm e⟩
    · rw [setM_ne e] at h1
      exact .inl ⟨e, a, h1, h2, h3⟩
  · rintro (⟨e, a, h1, h2, h3⟩ | ⟨a, h1, h2, rfl⟩)
    · exact ⟨a, by rw [setM_ne e]; exact h1, h2, h3⟩
    · exact ⟨a, by rw [setM_same]; exact h1, h2, rfl⟩
theorem wt_drop {m : Mp Str} {n : Int} {a : Al Str} (h : m n = some a) {q : Int × Int} : (Wt m q ∧ q ≠ (a.val, n)) ↔ (q.2 ≠ n ∧ Wt m q) := by
  constructor
  · rintro ⟨⟨b, h1, h2, h3⟩, h4⟩
    refine ⟨fun e => h4 ?_, b, h1, h2, h3⟩
    rw [e, h] at h1
    cases h1
    exact Prod.ext h3.symm e
  · rintro ⟨e, w⟩
    exact ⟨w, fun z => e (by rw [z])⟩
theorem wt_rest {m : Mp Str} {n : Int} {a : Al Str} (h : m n = some a) (hr : a.rests = true) {q : Int × Int} : Wt m q → q.2 ≠ n := by
  rintro ⟨b, h1, h2, h3⟩ e
  rw [e, h] at h1
  cases h1
  rw [hr] at h2
  cases h2
def spBLeft (CW CA CB : Addr) : Sp := fun vs H Q _ => ∃ (A : BA) (F : Addr → Prop) (S : Int) (L : Nat) (now tn many : Int) (m : Mp Str) (Wp : Int × Int → Prop) (n : Int) (a : Al Str), vs = [.ref A.x, .int n] ∧ BAt CW CA CB H F A S L now tn many m Wp ∧ m n = some a ∧ a.rests = true ∧ Q (.int a.val) H
def spBack (CW CA CB CNot : Addr) : Sp := fun vs H Q E => ∃ (A : BA) (F : Addr → Prop) (S : Int) (L : Nat) (now many : Int) (m : Mp Str) (n : Int), vs = [.ref A.x, .int n] ∧ Bk CW CA CB H F A S L now many m ∧
  (m n = none → E (.ref CNot) none H) ∧ ∀ a, m n = some a → ∀ (A' : BA) (F' : Addr → Prop) (H' : Hp), A'.x = A.x → Bk CW CA CB H' F' A' S L now many (setM m n none) → Ch F F' H H' → Q (.str a.name) H'
def spMove (CW CA CB CPast CNot : Addr) : Sp := fun vs H Q E => ∃ (A : BA) (F : Addr → Prop) (S : Int) (L : Nat) (now many : Int) (m : Mp Str) (n due : Int), vs = [.ref A.x, .int n, .int due] ∧ Bk CW CA CB H F A S L now many m ∧ many ≤ 900 ∧
  (m n = none → E (.ref CNot) none H) ∧ ∀ a, m n = some a → (a.rests = true → E (.ref CNot) none H) ∧ (a.rests = false → (due ≤ now → E (.ref CPast) none H) ∧ (now < due →
  ∀ (A' : BA) (F' : Addr → Prop) (H' : Hp), A'.x = A.x → Bk CW CA CB H' F' A' S L now many (setM m n (some { a with val := due })) → Ch F F' H H' → Q .non H'))
def spRest (CW CA CB CNot : Addr) : Sp := fun vs H Q E => ∃ (A : BA) (F : Addr → Prop) (S : Int) (L : Nat) (now many : Int) (m : Mp Str) (n : Int), vs = [.ref A.x, .int n] ∧ Bk CW CA CB H F A S L now many m ∧
  (m n = none → E (.ref CNot) none H) ∧ ∀ a, m n = some a → (a.rests = true → E (.ref CNot) none H) ∧ (a.rests = false →
  ∀ (A' : BA) (F' : Addr → Prop) (H' : Hp), A'.x = A.x → Bk CW CA CB H' F' A' S L now many (setM m n (some { a with rests := true, val := a.val - now })) → Ch F F' H H' → Q .non H')
def spGo (CW CA CB CNot : Addr) : Sp := fun vs H Q E => ∃ (A : BA) (F : Addr → Prop) (S : Int) (L : Nat) (now many : Int) (m : Mp Str) (n : Int), vs = [.ref A.x, .int n] ∧ Bk CW CA CB H F A S L now many m ∧ many ≤ 900 ∧
  (m n = none → E (.ref CNot) none H) ∧ ∀ a, m n = some a → (a.rests = false → E (.ref CNot) none H) ∧ (a.rests = true → 1 ≤ a.val ∧
  ∀ (A' : BA) (F' : Addr → Prop) (H' : Hp), A'.x = A.x → Bk CW CA CB H' F' A' S L now many (setM m n (some { a with rests := false, val := now + a.val })) → Ch F F' H H' → Q .non H')
section
variable {P : Program} {w : World} {K : PySem.W.Frag} {mg : Str → Option Value} {base : Heap} {CW CA CB CT CBad CPast CNot : Addr}
theorem scLeft : FnScope ["self", "number"] ["self", "number"] (defScope sBook_left) := ⟨rfl, rfl, rfl, by decide +kernel, rfl, by decide +kernel, by decide +kernel⟩
theorem ok_Left {f : Addr} {fd : FuncData} (F : Fun K "left" "Book.left" sBook_left f fd) (T : Txt K mg CW CA CB CT CBad CPast CNot) (GN : GMe P w K mg base (L2.CX P w) 1 CB "need" ["self", "number", "rests"] (spNeed CW CA CB CNot)) :
    FnOk P w K mg base CX0 2 f fd ["self", "number"] (spBLeft CW CA CB) := by
  obtain ⟨fN, fdN, mN, bN, GN⟩ := GN
  refine F.ok scLeft (fun vs H Q E h => ?_) (fun cdv A outer s H vs Q E hr h => ?_)
  · obtain ⟨A, F, S, L, now, tn, many, m, Wp, n, a, rfl, _⟩ := h
    rfl
  · obtain ⟨A, F, S, L, now, tn, many, m, Wp, n, a, rfl, b, hm, ha, k⟩ := h
    refine ⟨_, pss_one (ps_ret (pe_fld (pe_meth (pv 0) T.clB mN GN hr bN .nil passL (pa_cons (pv 1) (pa_cons pe_bl pa_nil))) rfl)), ?_⟩
    obtain ⟨y1, ⟨dx, wn, y2, y3⟩, _⟩ := b.yes n a hm
    refine ⟨_, rfl, A.x, A.dx, _, rfl, b.ob, rfl, _, rfl, A, F, S, L, now, tn, many, m, Wp, n, true, rfl, b, fun z => ?_, fun c hc => ⟨fun z => ?_, fun _ => ?_⟩⟩
    · rw [hm] at z
      cases z
    · rw [hm] at hc
      cases hc
      exact absurd ha z
    · refine ⟨A.aa n, CA, dx, _, _, rfl, y2, T.clA, T.aRest, af_rest, ?_⟩
      rw [ha, if_pos rfl]
      exact k
theorem scBack : FnScope ["book", "number", "alarm"] ["book", "number"] (defScope s_take_back) := ⟨rfl, rfl, rfl, by decide +kernel, rfl, by decide +kernel, by decide +kernel⟩
theorem ok_Back {f : Addr} {fd : FuncData} (F : Fun K "take_back" "take_back" s_take_back f fd) (T : Txt K mg CW CA CB CT CBad CPast CNot) (GD : GMe P w K mg base CX0 2 CW "drop" ["self", "now", "due", "number"] (spDrop CW)) :
    FnOk P w K mg base (L2.CX P w) 3 f fd ["book", "number"] (spBack CW CA CB CNot) := by
  obtain ⟨fD, fdD, mD, bD, GD⟩ := GD
  refine F.okX scBack (fun vs H Q E h => ?_) (fun cdv A outer s H vs Q E hr h => ?_)
  · obtain ⟨A, F, S, L, now, many, m, n, rfl, _⟩ := h
    rfl
  · obtain ⟨A, F, S, L, now, many, m, n, rfl, ⟨b, ahead⟩, kE, k⟩ := h
    have hu := hu_of hr
    refine ⟨_, pss_cons (ps_if (pt_cmp (pc_dnotin hu (pv 1) (pe_fld (pv 0) rfl))) (pss_one (ps_raise rfl (takes_of rfl rfl rfl rfl) (pmk_own PySem.F.excBase_ValueError T.nott.ex T.nott.g T.nott.kp (raises_own T.nott.base T.nott.ty) rfl))) pss_nil)
      (pss_cons (ps_set (i := 2) scBack.nd rfl (Or.inl rfl) (pe_dpop1 (pe_fld (pv 0) rfl) (pv 1) ⟨rfl, rfl, rfl, rfl⟩))
      (C8.pss_cut (ps_if (pt_cmp (pc_isN (pe_fld (pv 2) rfl))) (pss_one (ps_expr (pe_meth (pe_fld (pv 0) rfl) T.clW mD GD hr bD .nil pass0 (pa_cons (pe_fld (pv 0) rfl) (pa_cons (pe_fld (pv 2) rfl) (pa_cons (pv 1) pa_nil)))))) pss_nil)
      (pss_one (ps_ret (pe_fld (pv 2) rfl))))), ?_⟩
    refine ⟨_, rfl, _, rfl, A.x, CB, A.dx, _, _, rfl, b.ob, T.clB, T.bAlarms, bf_alarms, A.al, _, rfl, DGet.k (k := Sum.inl n) b.al, _, rfl, ?_⟩
    cases hm : m n with
    | none =>
      rw [b.no n hm]
      exact iteT (kE hm)
    | some a =>
      obtain ⟨y1, ⟨dx, wn, y2, y3⟩, y4, y5, y6⟩ := b.yes n a hm
      rw [y1]
      refine iteF ?_
      obtain ⟨b1, c1⟩ := b.popAl n
      refine ⟨_, rfl, A.x, CB, A.dx, _, _, rfl, b.ob, T.clB, T.bAlarms, bf_alarms, A.al, rfl, .inl ⟨_, .inl b.al⟩, _, rfl, _, Sum.inl n, _, b.al, rfl, y1, ?_⟩
      have e2 : upd H A.al (.dK (dropK A.kvs (Sum.inl n))) (A.aa n) = some (.ins CA dx (af a.name wn (optI a.step) (if a.rests = true then .int a.val else .non))) := by
        rw [upd_ne (ne_of y2 b.al (by intro z; cases z))]
        exact y2
      generalize upd H A.al (.dK (dropK A.kvs (Sum.inl n))) = H1 at b1 c1 e2
      refine ⟨fun sg H' => sg = [some (.ref A.x), some (.int n), some (.ref (A.aa n))] ∧ ∃ (A' : BA) (F' : Addr → Prop), A'.x = A.x ∧ BAt CW CA CB H' F' A' S L now now many (setM m n none) (Wt (setM m n none)) ∧ Ch F F' H H' ∧ H' (A.aa n) = some (.ins CA dx (af a.name wn (optI a.step) (if a.rests = true then .int a.val else .non))), ?_, ?_⟩
      · refine ⟨_, rfl, A.aa n, CA, dx, _, _, rfl, e2, T.clA, T.aRest, af_rest, _, rfl, ?_⟩
        cases ha : a.rests with
        | true =>
          rw [ha] at e2
          refine iteF ⟨rfl, { A with kvs := dropK A.kvs (Sum.inl n) }, F, rfl, b1.congr fun q => ?_, c1, e2⟩
          rw [wt_at]
          exact ⟨fun z => z.elim (fun z => z.2) fun ⟨_, z, _⟩ => (nomatch z), fun z => .inl ⟨wt_rest hm ha z, z⟩⟩
        | false =>
          have y3 := y3 ha
          subst y3
          rw [ha] at e2
          refine iteT ?_
          obtain ⟨R, far, W, G⟩ := b1.wh
          refine ⟨_, rfl, A.x, CB, A.dx, _, _, rfl, b1.ob, T.clB, T.bWheels, bf_wheels, A.wa.x, A.wa.dx, _, rfl, W.ob, rfl, _, rfl, A.x, CB, A.dx, _, _, rfl, b1.ob, T.clB, T.bNow, bf_now, _, rfl, A.aa n, CA, dx, _, _, rfl, e2, T.clA, T.aWhen, af_when, _, rfl, A.wa, A.fw, S, L, R, far, now, a.val, n, Wt m, rfl, W, b1.WS, G, ⟨a, hm, ha, rfl⟩, fun A5 F5 H5 R5 far5 ex5 W5 G5 C5 => ?_⟩
          obtain ⟨b5, c5⟩ := b1.wheels ex5 W5 G5 C5
          refine ⟨rfl, _, _, ?_, b5.congr fun q => ?_, c1.trans c5, C5.kp _ _ e2 y5⟩
          · rfl
          · rw [wt_at, wt_drop hm]
            exact ⟨fun z => z.elim id fun ⟨_, z, _⟩ => (nomatch z), .inl⟩
      · rintro sg H2 ⟨rfl, A2, F2, ex2, b2, c2, e3⟩
        refine ⟨_, rfl, A.aa n, CA, dx, _, _, rfl, e3, T.clA, T.aName, af_name, ?_⟩
        refine k a hm A2 F2 H2 ex2 ⟨b2, fun q hq => ?_⟩ c2
        rcases wt_at.mp hq with h | ⟨_, z, _⟩
        · exact ahead q h.2
        · cases z
theorem scMove : FnScope ["book", "number", "due", "alarm"] ["book", "number", "due"] (defScope s_move) := ⟨rfl, rfl, rfl, by decide +kernel, rfl, by decide +kernel, by decide +kernel⟩
theorem ok_Move {f : Addr} {fd : FuncData} (F : Fun K "move" "move" s_move f fd) (T : Txt K mg CW CA CB CT CBad CPast CNot) (GN : GMe P w K mg base (L2.CX P w) 1 CB "need" ["self", "number", "rests"] (spNeed CW CA CB CNot)) (GD : GMe P w K mg base CX0 2 CW "drop" ["self", "now", "due", "number"] (spDrop CW))
    (GP : GMe P w K mg base CX0 2 CW "put" ["self", "now", "due", "number"] (spPut CW)) : FnOk P w K mg base (L2.CX P w) 3 f fd ["book", "number", "due"] (spMove CW CA CB CPast CNot) := by
  obtain ⟨fN, fdN, mN, bN, GN⟩ := GN
  obtain ⟨fD, fdD, mD, bD, GD⟩ := GD
  obtain ⟨fP, fdP, mP, bP, GP⟩ := GP
  refine F.okX scMove (fun vs H Q E h => ?_) (fun cdv A outer s H vs Q E hr h => ?_)
  · obtain ⟨A, F, S, L, now, many, m, n, due, rfl, _⟩ := h
    rfl
  · obtain ⟨A, F, S, L, now, many, m, n, due, rfl, ⟨b, ahead⟩, hmany, kE, k⟩ := h
    have hr1 : Room 1 _ := hr.mono (by decide)
    refine ⟨_, pss_cons (ps_set (i := 3) scMove.nd rfl (Or.inl rfl) (pe_meth (pv 0) T.clB mN GN hr1 bN .nil (passes_call (takes_of rfl rfl rfl rfl) (fun _ _ _ _ h => h)) (pa_cons (pv 1) (pa_cons pe_bl pa_nil))))
      (pss_cons (ps_if (pt_cmpR op_le (pv 2) (pe_fld (pv 0) rfl) (nomark _)) (pss_one (ps_raise rfl (takes_of rfl rfl rfl rfl) (pmk_own PySem.F.excBase_ValueError T.past.ex T.past.g T.past.kp (raises_own T.past.base T.past.ty) rfl))) pss_nil)
      (pss_cons (ps_expr (pe_meth (pe_fld (pv 0) rfl) T.clW mD GD hr bD .nil pass0 (pa_cons (pe_fld (pv 0) rfl) (pa_cons (pe_fld (pv 3) rfl) (pa_cons (pv 1) pa_nil)))))
      (pss_cons (ps_fld (pv 3) (pv 2) rfl)
      (pss_one (ps_expr (pe_meth (pe_fld (pv 0) rfl) T.clW mP GP hr bP .nil pass0 (pa_cons (pe_fld (pv 0) rfl) (pa_cons (pv 2) (pa_cons (pv 1) pa_nil))))))))), ?_⟩
    refine ⟨_, rfl, A.x, A.dx, _, rfl, b.ob, rfl, _, rfl, A, F, S, L, now, now, many, m, Wt m, n, false, rfl, b, kE, fun a hm => ⟨fun z => (k a hm).1 (by cases q : a.rests with | true => rfl | false => exact absurd q z), fun ha => ?_⟩⟩
    obtain ⟨k1, k2⟩ := (k a hm).2 ha
    obtain ⟨y1, ⟨dx, wn, y2, y3⟩, y4, y5, y6⟩ := b.yes n a hm
    have y3 := y3 ha
    subst y3
    rw [ha, if_neg Bool.false_ne_true] at y2
    refine ⟨_, rfl, _, rfl, A.x, CB, A.dx, _, _, rfl, b.ob, T.clB, T.bNow, bf_now, _, _, rfl, rfl, _, rfl, if2 k1 fun c => ?_⟩
    have k2 := k2 (by omega)
    obtain ⟨R, far, W, G⟩ := b.wh
    refine ⟨_, rfl, A.x, CB, A.dx, _, _, rfl, b.ob, T.clB, T.bWheels, bf_wheels, A.wa.x, A.wa.dx, _, rfl, W.ob, rfl, _, rfl, A.x, CB, A.dx, _, _, rfl, b.ob, T.clB, T.bNow, bf_now, _, rfl, A.aa n, CA, dx, _, _, rfl, y2, T.clA, T.aWhen, af_when, _, rfl, A.wa, A.fw, S, L, R, far, now, a.val, n, Wt m, rfl, W, b.WS, G, ⟨a, hm, ha, rfl⟩, fun A5 F5 H5 R5 far5 ex5 W5 G5 C5 => ?_⟩
    obtain ⟨b5, c5⟩ := b.wheels ex5 W5 G5 C5
    have e5 := C5.kp _ _ y2 y5
    refine ⟨_, rfl, _, rfl, A.aa n, CA, dx, _, rfl, e5, T.clA, T.aWhen, (by show 4 < 1000; decide), ?_⟩
    rw [af_putWhen]
    obtain ⟨b6, c6⟩ := b5.updAl (n := n) (a := a) (a' := { a with val := due }) (dx := dx) (fs := af a.name due (optI a.step) .non) hm ⟨dx, due, by rw [upd_same]; simp only [ha]; rfl, fun _ => rfl⟩ rfl
    have few : Few (Wt m) := b.few (by omega)
    generalize upd H5 (A.aa n) (.ins CA dx (af a.name due (optI a.step) .non)) = H6 at b6 c6
    obtain ⟨R6, far6, W6, G6⟩ := b6.wh
    have few6 : Few (fun q => Wt m q ∧ q ≠ (a.val, n)) := few.sub fun q z => z.1
    refine ⟨_, rfl, A.x, CB, A.dx, _, _, rfl, b6.ob, T.clB, T.bWheels, bf_wheels, A5.x, A5.dx, _, rfl, W6.ob, rfl, _, rfl, A.x, CB, A.dx, _, _, rfl, b6.ob, T.clB, T.bNow, bf_now, _, rfl, _, rfl, A5, F5, S, L, R6, far6, now, due, n, rfl, W6, b6.WS, (G6.lens few6).1, (G6.lens few6).2, fun A7 F7 H7 ex7 W7 C7 => ?_⟩
    have nw : ¬ (Wt m (due, n) ∧ (due, n) ≠ (a.val, n)) := fun z => (wt_drop hm).mp z |>.1 rfl
    obtain ⟨b7, c7⟩ := b6.wheels ex7 W7 (G6.put nw) C7
    have ew : ∀ q, Wt (setM m n (some { a with val := due })) q ↔ (Wt m q ∧ q ≠ (a.val, n)) ∨ q = (due, n) := fun q => by
      rw [wt_at, wt_drop hm]
      refine or_congr Iff.rfl ⟨fun ⟨_, z1, _, z3⟩ => by cases z1; exact z3, fun z => ⟨_, rfl, ha, z⟩⟩
    refine k2 _ _ H7 (by rfl) ⟨b7.congr ew, fun q hq => ?_⟩ ((c5.trans c6).trans c7)
    rcases (ew q).mp hq with h | rfl
    · exact ahead q h.1
    · show now < due
      omega
theorem scRest : FnScope ["book", "number", "alarm"] ["book", "number"] (defScope s_rest) := ⟨rfl, rfl, rfl, by decide +kernel, rfl, by decide +kernel, by decide +kernel⟩
theorem ok_Rest {f : Addr} {fd : FuncData} (F : Fun K "rest" "rest" s_rest f fd) (T : Txt K mg CW CA CB CT CBad CPast CNot) (GN : GMe P w K mg base (L2.CX P w) 1 CB "need" ["self", "number", "rests"] (spNeed CW CA CB CNot)) (GD : GMe P w K mg base CX0 2 CW "drop" ["self", "now", "due", "number"] (spDrop CW)) :
    FnOk P w K mg base (L2.CX P w) 3 f fd ["book", "number"] (spRest CW CA CB CNot) := by
  obtain ⟨fN, fdN, mN, bN, GN⟩ := GN
  obtain ⟨fD, fdD, mD, bD, GD⟩ := GD
  refine F.okX scRest (fun vs H Q E h => ?_) (fun cdv A outer s H vs Q E hr h => ?_)
  · obtain ⟨A, F, S, L, now, many, m, n, rfl, _⟩ := h
    rfl
  · obtain ⟨A, F, S, L, now, many, m, n, rfl, ⟨b, ahead⟩, kE, k⟩ := h
    have hr1 : Room 1 _ := hr.mono (by decide)
    refine ⟨_, pss_cons (ps_set (i := 2) scRest.nd rfl (Or.inl rfl) (pe_meth (pv 0) T.clB mN GN hr1 bN .nil (passes_call (takes_of rfl rfl rfl rfl) (fun _ _ _ _ h => h)) (pa_cons (pv 1) (pa_cons pe_bl pa_nil))))
      (pss_cons (ps_expr (pe_meth (pe_fld (pv 0) rfl) T.clW mD GD hr bD .nil pass0 (pa_cons (pe_fld (pv 0) rfl) (pa_cons (pe_fld (pv 2) rfl) (pa_cons (pv 1) pa_nil)))))
      (pss_one (ps_fld (pv 2) (pe_op op_sub (pe_fld (pv 2) rfl) (pe_fld (pv 0) rfl)) rfl))), ?_⟩
    refine ⟨_, rfl, A.x, A.dx, _, rfl, b.ob, rfl, _, rfl, A, F, S, L, now, now, many, m, Wt m, n, false, rfl, b, kE, fun a hm => ⟨fun z => (k a hm).1 (by cases q : a.rests with | true => rfl | false => exact absurd q z), fun ha => ?_⟩⟩
    have k2 := (k a hm).2 ha
    obtain ⟨y1, ⟨dx, wn, y2, y3⟩, y4, y5, y6⟩ := b.yes n a hm
    have y3 := y3 ha
    subst y3
    rw [ha, if_neg Bool.false_ne_true] at y2
    obtain ⟨R, far, W, G⟩ := b.wh
    refine ⟨_, rfl, A.x, CB, A.dx, _, _, rfl, b.ob, T.clB, T.bWheels, bf_wheels, A.wa.x, A.wa.dx, _, rfl, W.ob, rfl, _, rfl, A.x, CB, A.dx, _, _, rfl, b.ob, T.clB, T.bNow, bf_now, _, rfl, A.aa n, CA, dx, _, _, rfl, y2, T.clA, T.aWhen, af_when, _, rfl, A.wa, A.fw, S, L, R, far, now, a.val, n, Wt m, rfl, W, b.WS, G, ⟨a, hm, ha, rfl⟩, fun A5 F5 H5 R5 far5 ex5 W5 G5 C5 => ?_⟩
    obtain ⟨b5, c5⟩ := b.wheels ex5 W5 G5 C5
    have e5 := C5.kp _ _ y2 y5
    refine ⟨_, rfl, A.aa n, CA, dx, _, _, rfl, e5, T.clA, T.aWhen, af_when, _, rfl, A.x, CB, A.dx, _, _, rfl, b5.ob, T.clB, T.bNow, bf_now, _, _, rfl, rfl, _, rfl, A.aa n, CA, dx, _, rfl, e5, T.clA, T.aRest, (by show 4 < 1000; decide), ?_⟩
    rw [af_putRest]
    obtain ⟨b6, c6⟩ := b5.updAl (n := n) (a := a) (a' := { a with rests := true, val := a.val - now }) (dx := dx) (fs := af a.name a.val (optI a.step) (.int (a.val - now))) hm ⟨dx, a.val, upd_same, fun z => nomatch z⟩ rfl
    have ew : ∀ q, Wt (setM m n (some { a with rests := true, val := a.val - now })) q ↔ (Wt m q ∧ q ≠ (a.val, n)) := fun q => by
      rw [wt_at, wt_drop hm]
      exact ⟨fun z => z.elim id fun ⟨_, z1, z2, _⟩ => (by cases z1; cases z2), .inl⟩
    refine k2 _ _ _ (by rfl) ⟨b6.congr ew, fun q hq => ?_⟩ (c5.trans c6)
    exact ahead q ((ew q).mp hq).1
theorem scGo : FnScope ["book", "number", "alarm"] ["book", "number"] (defScope s_go_on) := ⟨rfl, rfl, rfl, by decide +kernel, rfl, by decide +kernel, by decide +kernel⟩
theorem ok_Go {f : Addr} {fd : FuncData} (F : Fun K "go_on" "go_on" s_go_on f fd) (T : Txt K mg CW CA CB CT CBad CPast CNot) (GN : GMe P w K mg base (L2.CX P w) 1 CB "need" ["self", "number", "rests"] (spNeed CW CA CB CNot)) (GP : GMe P w K mg base CX0 2 CW "put" ["self", "now", "due", "number"] (spPut CW)) :
    FnOk P w K mg base (L2.CX P w) 3 f fd ["book", "number"] (spGo CW CA CB CNot) := by
  obtain ⟨fN, fdN, mN, bN, GN⟩ := GN
  obtain ⟨fP, fdP, mP, bP, GP⟩ := GP
  refine F.okX scGo (fun vs H Q E h => ?_) (fun cdv A outer s H vs Q E hr h => ?_)
  · obtain ⟨A, F, S, L, now, many, m, n, rfl, _⟩ := h
    rfl
  · obtain ⟨A, F, S, L, now, many, m, n, rfl, ⟨b, ahead⟩, hmany, kE, k⟩ := h
    have hr1 : Room 1 _ := hr.mono (by decide)
    refine ⟨_, pss_cons (ps_set (i := 2) scGo.nd rfl (Or.inl rfl) (pe_meth (pv 0) T.clB mN GN hr1 bN .nil (passes_call (takes_of rfl rfl rfl rfl) (fun _ _ _ _ h => h)) (pa_cons (pv 1) (pa_cons pe_bl pa_nil))))
      (pss_cons (ps_fld (pv 2) (pe_op op_add (pe_fld (pv 0) rfl) (pe_fld (pv 2) rfl)) rfl)
      (pss_cons (ps_fld (pv 2) pe_non rfl)
      (pss_one (ps_expr (pe_meth (pe_fld (pv 0) rfl) T.clW mP GP hr bP .nil pass0 (pa_cons (pe_fld (pv 0) rfl) (pa_cons (pe_fld (pv 2) rfl) (pa_cons (pv 1) pa_nil)))))))), ?_⟩
    refine ⟨_, rfl, A.x, A.dx, _, rfl, b.ob, rfl, _, rfl, A, F, S, L, now, now, many, m, Wt m, n, true, rfl, b, kE, fun a hm => ⟨fun z => (k a hm).1 (by cases q : a.rests with | false => rfl | true => exact absurd q z), fun ha => ?_⟩⟩
    obtain ⟨hv, k2⟩ := (k a hm).2 ha
    obtain ⟨y1, ⟨dx, wn, y2, y3⟩, y4, y5, y6⟩ := b.yes n a hm
    rw [ha, if_pos rfl] at y2
    refine ⟨_, rfl, A.x, CB, A.dx, _, _, rfl, b.ob, T.clB, T.bNow, bf_now, _, rfl, A.aa n, CA, dx, _, _, rfl, y2, T.clA, T.aRest, af_rest, _, _, rfl, rfl, _, rfl, A.aa n, CA, dx, _, rfl, y2, T.clA, T.aWhen, (by show 4 < 1000; decide), ?_⟩
    rw [af_putWhen]
    obtain ⟨b5, c5⟩ := b.updAl (n := n) (a := a) (a' := a) (dx := dx) (fs := af a.name (now + a.val) (optI a.step) (.int a.val)) hm ⟨dx, now + a.val, by rw [upd_same, ha]; rfl, fun z => by rw [ha] at z; cases z⟩ rfl
    rw [setM_self hm] at b5
    have e5 : upd H (A.aa n) (.ins CA dx (af a.name (now + a.val) (optI a.step) (.int a.val))) (A.aa n) = some (.ins CA dx (af a.name (now + a.val) (optI a.step) (.int a.val))) := upd_same
    generalize upd H (A.aa n) (.ins CA dx (af a.name (now + a.val) (optI a.step) (.int a.val))) = H5 at b5 c5 e5
    refine ⟨_, rfl, A.aa n, CA, dx, _, rfl, e5, T.clA, T.aRest, (by show 4 < 1000; decide), ?_⟩
    rw [af_putRest]
    obtain ⟨b6, c6⟩ := b5.updAl (n := n) (a := a) (a' := { a with rests := false, val := now + a.val }) (dx := dx) (fs := af a.name (now + a.val) (optI a.step) .non) hm ⟨dx, now + a.val, upd_same, fun _ => rfl⟩ rfl
    have e6 : upd H5 (A.aa n) (.ins CA dx (af a.name (now + a.val) (optI a.step) .non)) (A.aa n) = some (.ins CA dx (af a.name (now + a.val) (optI a.step) .non)) := upd_same
    have few : Few (Wt m) := b.few (by omega)
    generalize upd H5 (A.aa n) (.ins CA dx (af a.name (now + a.val) (optI a.step) .non)) = H6 at b6 c6 e6
    obtain ⟨R6, far6, W6, G6⟩ := b6.wh
    refine ⟨_, rfl, A.x, CB, A.dx, _, _, rfl, b6.ob, T.clB, T.bWheels, bf_wheels, A.wa.x, A.wa.dx, _, rfl, W6.ob, rfl, _, rfl, A.x, CB, A.dx, _, _, rfl, b6.ob, T.clB, T.bNow, bf_now, _, rfl, A.aa n, CA, dx, _, _, rfl, e6, T.clA, T.aWhen, af_when, _, rfl, A.wa, A.fw, S, L, R6, far6, now, now + a.val, n, rfl, W6, b6.WS, (G6.lens few).1, (G6.lens few).2, fun A7 F7 H7 ex7 W7 C7 => ?_⟩
    have nw : ¬ Wt m (now + a.val, n) := fun z => wt_rest hm ha z rfl
    obtain ⟨b7, c7⟩ := b6.wheels ex7 W7 (G6.put nw) C7
    have ew : ∀ q, Wt (setM m n (some { a with rests := false, val := now + a.val })) q ↔ Wt m q ∨ q = (now + a.val, n) := fun q => by
      rw [wt_at]
      constructor
      · rintro (z | ⟨_, z1, _, z3⟩)
        · exact .inl z.2
        · cases z1
          exact .inr z3
      · rintro (z | z)
        · exact .inl ⟨wt_rest hm ha z, z⟩
        · exact .inr ⟨_, rfl, rfl, z⟩
    refine k2 _ _ H7 (by rfl) ⟨b7.congr ew, fun q hq => ?_⟩ ((c5.trans c6).trans c7)
    rcases (ew q).mp hq with h | rfl
    · exact ahead q h
    · show now < now + a.val
      omega
end
end L2.TK

set_option Elab.async false
set_option linter.all false
set_option maxRecDepth 100000
set_option maxHeartbeats 4000000
namespace L2.TK
open PySem TkM
theorem at_mod {xs : List V} {v n : Int} (hn : n = (xs.length : Int)) (h : 0 < n) : ∃ x, atI xs (v.fmod n) = some x ∧ x ∈ xs := by
  rw [fmodP h]
  have h1 := Int.emod_nonneg v (by omega : n ≠ 0)
  have h2 := Int.emod_lt_of_pos v h
  have h3 : ((v % n).toNat : Int) = v % n := Int.toNat_of_nonneg h1
  have h4 : (v % n).toNat < xs.length := by omega
  exact ⟨xs[(v % n).toNat], at_of h3.symm (List.getElem?_eq_getElem h4), List.getElem_mem h4⟩
theorem nz {j : Int} (h : j ≠ 0) : j ≠ 0 := h
def spCe (K : PySem.W.Frag) : Sp := fun vs H Q _ => ∃ (a : Addr) (ns : List Int) (k : Int), vs = [.ref a, .int k] ∧ SqL K H a (ns.map V.int) ∧ ns.length ≤ 63 ∧ ∀ v, Q (.int v) H
def spMix (K : PySem.W.Frag) : Sp := fun vs H Q _ => ∃ (a : Addr) (ns : List Int) (k : Int), vs = [.ref a, .int k] ∧ SqL K H a (ns.map V.int) ∧ ns.length ≤ 63 ∧ ∀ v, 0 ≤ v → v < 4294967231 → Q (.int v) H
def spWhole : Sp := fun vs H Q _ => ∃ n, vs = [.int n] ∧ Q (.bl true) H
section
variable {P : Program} {w : World} {K : PySem.W.Frag} {mg : Str → Option Value} {base : Heap} {CW CA CB CT CBad CPast CNot : Addr}
theorem scCe : FnScope ["_law_script", "_law_k"] ["_law_script", "_law_k"] (defScope s_law_cell) := ⟨rfl, rfl, rfl, by decide +kernel, rfl, by decide +kernel, by decide +kernel⟩
theorem ok_Ce {f : Addr} {fd : FuncData} (F : Fun K "_law_cell" "_law_cell" s_law_cell f fd) (T : Txt K mg CW CA CB CT CBad CPast CNot) : FnOk P w K mg base CX0 1 f fd ["_law_script", "_law_k"] (spCe K) := by
  refine F.ok scCe (fun vs H Q E h => ?_) (fun cdv A outer s H vs Q E hr h => ?_)
  · obtain ⟨a, ns, k, rfl, _⟩ := h
    rfl
  · obtain ⟨a, ns, k, rfl, hS, hl, q⟩ := h
    refine ⟨_, pss_cons (ps_if (pt_truth (pv 0) (by intro _; rfl)) (pss_one (ps_ret (pe_ix ix_list (pv 0) (pe_op op_modN (pv 1) (pe_callB call_len (by rfl) T.len (by decide +kernel) (pa_cons (pv 0) pa_nil))) (fun _ _ => rfl)))) pss_nil)
      (pss_one (ps_ret pe_int)), ?_⟩
    refine ⟨_, rfl, !(ns.map V.int).isEmpty, .inl ⟨_, hS, rfl⟩, ?_⟩
    cases hns : ns with
    | nil => exact iteF (q 0)
    | cons n ns' =>
      refine iteT ?_
      have e : ((ns.map V.int).length : Int) = ((ns.map V.int).length : Int) := rfl
      obtain ⟨x, h1, h2⟩ := at_mod (xs := ns.map V.int) (v := k) e (by rw [hns]; exact Int.natCast_pos.mpr (Nat.succ_pos _))
      obtain ⟨i, _, rfl⟩ := List.mem_map.mp h2
      exact ⟨_, rfl, _, rfl, _, rfl, V.ref a, (ns.map V.int).length, rfl, .inl ⟨_, hS, rfl⟩, _, _, rfl, rfl, by rw [hns]; simp only [List.map_cons, List.length_cons]; omega, a, _, _, _, rfl, rfl, hS, h1, q i⟩
theorem scMix : FnScope ["_law_script", "_law_k", "_law_number"] ["_law_script", "_law_k"] (defScope s_law_mix) := ⟨rfl, rfl, rfl, by decide +kernel, rfl, by decide +kernel, by decide +kernel⟩
theorem ok_Mix {f : Addr} {fd : FuncData} (F : Fun K "_law_mix" "_law_mix" s_law_mix f fd) (GC : GFn P w K mg base CX0 1 "_law_cell" ["_law_script", "_law_k"] (spCe K)) : FnOk P w K mg base CX0 2 f fd ["_law_script", "_law_k"] (spMix K) := by
  obtain ⟨fC, fdC, gC, kC, bC, GC⟩ := GC
  refine F.ok scMix (fun vs H Q E h => ?_) (fun cdv A outer s H vs Q E hr h => ?_)
  · obtain ⟨a, ns, k, rfl, _⟩ := h
    rfl
  · obtain ⟨a, ns, k, rfl, hS, hl, q⟩ := h
    refine ⟨_, pss_cons (ps_set (i := 2) scMix.nd rfl (Or.inl rfl) (pe_op op_modN (pe_op op_add (pe_call GC hr rfl gC kC bC .nil pass0 (pa_cons (pv 0) (pa_cons (pv 1) pa_nil))) (pe_op op_mul pe_int (pe_op op_add (pv 1) pe_int))) pe_int))
      (pss_cons (ps_set (i := 2) scMix.nd rfl (Or.inl rfl) (pe_op op_modN (pe_op op_mul (pv 2) pe_int) pe_int))
      (pss_one (ps_ret (pe_op op_modN (pe_op op_add (pe_op op_mul (pe_op op_fdivW (pv 2) pe_int) pe_int) (pv 2)) pe_int)))), ?_⟩
    refine ⟨_, rfl, _, rfl, a, ns, k, rfl, hS, hl, fun v => ?_⟩
    refine ⟨_, rfl, _, _, rfl, rfl, _, _, rfl, rfl, .inl (by decide), _, _, rfl, rfl, _, _, rfl, rfl, nz (by decide), ?_⟩
    have r1 : ∀ x : Int, -(2 ^ 64) < x.fmod 4294967291 ∧ x.fmod 4294967291 < 2 ^ 64 := fun x => by
      rw [fmodP (by decide)]
      omega
    refine ⟨_, rfl, _, _, rfl, rfl, .inl (r1 _), _, _, rfl, rfl, nz (by decide), ?_⟩
    refine ⟨_, rfl, _, _, rfl, rfl, wdiv (by decide) (by decide), _, _, rfl, rfl, .inr (by decide), _, rfl, _, _, rfl, rfl, _, _, rfl, rfl, nz (by decide), ?_⟩
    refine q _ ?_ ?_ <;> (rw [fmodP (by decide)]; omega)
theorem scWhole : FnScope ["_law_found"] ["_law_found"] (defScope s_law_whole) := ⟨rfl, rfl, rfl, by decide +kernel, rfl, by decide +kernel, by decide +kernel⟩
theorem ok_Whole {f : Addr} {fd : FuncData} (F : Fun K "_law_whole" "_law_whole" s_law_whole f fd) (T : Txt K mg CW CA CB CT CBad CPast CNot) (iI : mg "int" = none) (iB : mg "bool" = none) : FnOk P w K mg base CX0 1 f fd ["_law_found"] spWhole := by
  refine F.ok scWhole (fun vs H Q E h => ?_) (fun cdv A outer s H vs Q E hr h => ?_)
  · obtain ⟨n, rfl, _⟩ := h
    rfl
  · obtain ⟨n, rfl, q⟩ := h
    refine ⟨_, pss_one (ps_ret (pe_and (pe_callB call_isi (by rfl) T.isi (by decide +kernel) (pa_cons (pv 0) (pa_cons (pe_bltn (v := .ty "int") (u := .type "int") (by rfl) iI (by decide +kernel) rfl) pa_nil))) (pe_one (pe_not (pe_callB call_isi (by rfl) T.isi (by decide +kernel) (pa_cons (pv 0) (pa_cons (pe_bltn (v := .ty "bool") (u := .type "bool") (by rfl) iB (by decide +kernel) rfl) pa_nil))))))), ?_⟩
    refine ⟨_, rfl, V.int n, _, _, _, true, rfl, .ty _, .base (.int n), kit_ty (by decide +kernel), true, rfl, iteT ?_⟩
    exact ⟨_, rfl, V.int n, _, _, _, false, rfl, .ty _, .base (.int n), kit_ty (by decide +kernel), false, rfl, q⟩
end
end L2.TK
set_option Elab.async false
set_option linter.all false
set_option maxRecDepth 100000
set_option maxHeartbeats 4000000
namespace TkM
section
variable {N : Type}
theorem rings_adv {M : Mp N} (hs : Stp M) {g : Int} {x : Tr N} : Rings (adv M g) x ↔ Rings M x ∧ g < x.1 := by
  constructor
  · rintro ⟨b, hb, h1, h2, h3⟩
    unfold adv at hb
    cases ea : M x.2.1 with
    | none =>
      rw [ea] at hb
      cases hb
    | some a =>
      rw [ea] at hb
      have hb : advA g a = some b := hb
      unfold advA at hb
      by_cases c : a.rests = true ∨ g < a.val
      · rw [if_pos c] at hb
        have hb := Option.some.inj hb
        subst hb
        have c2 : g < a.val := c.resolve_left (by rw [h1]; decide)
        have := hits_ge h3 (fun s e => hs _ _ s ea e)
        exact ⟨⟨a, ea, h1, h2, h3⟩, by omega⟩
      · rw [if_neg c] at hb
        have c1 : a.rests = false := by
          cases q : a.rests with
          | false => rfl
          | true => exact absurd (.inl q) c
        have c2 : a.val ≤ g := by
          have : ¬ g < a.val := fun z => c (.inr z)
          omega
        cases es : a.step with
        | none =>
          rw [es] at hb
          cases hb
        | some s =>
          rw [es] at hb
          cases hb
          have s1 := hs _ _ s ea es
          unfold Hits at h3
          simp only [es] at h3
          obtain ⟨k, h3⟩ := h3
          have d1 := Int.emod_add_mul_ediv (g - a.val) s
          have d2 := Int.emod_lt_of_pos (g - a.val) (by omega : 0 < s)
          have d4 : 0 ≤ (g - a.val) / s := Int.ediv_nonneg (by omega) (by omega)
          have d5 : ((g - a.val) / s + 1) * s = s * ((g - a.val) / s) + s := by rw [Int.add_mul, Int.mul_comm, Int.one_mul]
          have d6 : 0 ≤ (k : Int) * s := Int.mul_nonneg (by omega) (by omega)
          refine ⟨⟨a, ea, c1, h2, ?_⟩, by omega⟩
          unfold Hits
          simp only [es]
          refine ⟨((g - a.val) / s).toNat + 1 + k, ?_⟩
          rw [h3]
          have e1 : ((((g - a.val) / s).toNat + 1 + k : Nat) : Int) = (g - a.val) / s + 1 + k := by omega
          rw [e1, Int.add_mul ((g - a.val) / s + 1) (k : Int) s]
          omega
  · rintro ⟨⟨a, ea, h1, h2, h3⟩, hg⟩
    by_cases c2 : g < a.val
    · exact ⟨a, by unfold adv; rw [ea]; show advA g a = _; unfold advA; rw [if_pos (.inr c2)], h1, h2, h3⟩
    · have c : ¬ (a.rests = true ∨ g < a.val) := by
        rintro (z | z)
        · rw [h1] at z
          cases z
        · exact c2 z
      cases es : a.step with
      | none =>
        unfold Hits at h3
        simp only [es] at h3
        omega
      | some s =>
        have s1 := hs _ _ s ea es
        unfold Hits at h3
        simp only [es] at h3
        obtain ⟨k, h3⟩ := h3
        have d1 := Int.emod_add_mul_ediv (g - a.val) s
        have d2 := Int.emod_nonneg (g - a.val) (by omega : s ≠ 0)
        have d4 : 0 ≤ (g - a.val) / s := Int.ediv_nonneg (by omega) (by omega)
        have d5 : ((g - a.val) / s + 1) * s = s * ((g - a.val) / s) + s := by rw [Int.add_mul, Int.mul_comm, Int.one_mul]
        have kq : (g - a.val) / s < k := by
          refine Int.lt_of_not_ge fun z => ?_
          have := Int.mul_le_mul_of_nonneg_right z (by omega : 0 ≤ s)
          rw [Int.mul_comm ((g - a.val) / s) s] at this
          omega
        refine ⟨{ a with val := a.val + ((g - a.val) / s + 1) * s }, ?_, h1, h2, ?_⟩
        · unfold adv
          rw [ea]
          show advA g a = _
          unfold advA
          rw [if_neg c, es]
        · unfold Hits
          simp only [es]
          refine ⟨(k - ((g - a.val) / s + 1)).toNat, ?_⟩
          rw [Int.toNat_of_nonneg (by omega), Int.sub_mul, h3]
          omega
theorem advA_adv {a : Al N} {g1 g2 : Int} (h : g1 ≤ g2) (hs : ∀ s, a.step = some s → 1 ≤ s) : (advA g1 a).bind (advA g2) = advA g2 a := by
  by_cases c : a.rests = true ∨ g1 < a.val
  · rw [show advA g1 a = some a from if_pos c]
    rfl
  · have c1 : a.rests = false := by
      cases q : a.rests with
      | false => rfl
      | true => exact absurd (.inl q) c
    have c2 : a.val ≤ g1 := by
      have : ¬ g1 < a.val := fun z => c (.inr z)
      omega
    have cc : ¬ (a.rests = true ∨ g2 < a.val) := by
      rintro (z | z)
      · rw [c1] at z
        cases z
      · omega
    cases es : a.step with
    | none =>
      unfold advA
      rw [if_neg c, if_neg cc, es]
      rfl
    | some s =>
      have s1 := hs s es
      have e1 : advA g1 a = some { a with val := a.val + ((g1 - a.val) / s + 1) * s } := by
        unfold advA
        rw [if_neg c, es]
      have e2 : advA g2 a = some { a with val := a.val + ((g2 - a.val) / s + 1) * s } := by
        unfold advA
        rw [if_neg cc, es]
      rw [e1, e2]
      have d1 := Int.emod_add_mul_ediv (g1 - a.val) s
      have d2 := Int.emod_lt_of_pos (g1 - a.val) (by omega : 0 < s)
      have d5 : ((g1 - a.val) / s + 1) * s = s * ((g1 - a.val) / s) + s := by rw [Int.add_mul, Int.mul_comm, Int.one_mul]
      have d3 := Int.emod_nonneg (g1 - a.val) (by omega : s ≠ 0)
      show advA g2 { a with val := a.val + ((g1 - a.val) / s + 1) * s } = _
      by_cases c3 : g2 < a.val + ((g1 - a.val) / s + 1) * s
      · have eq : (g2 - a.val) / s = (g1 - a.val) / s := by
          have r1 : g2 - a.val = (g2 - a.val - s * ((g1 - a.val) / s)) + s * ((g1 - a.val) / s) := by omega
          rw [r1, Int.add_mul_ediv_left _ _ (by omega : s ≠ 0), Int.ediv_eq_zero_of_lt (by omega) (by omega)]
          omega
        unfold advA
        rw [if_pos (.inr c3), eq]
      · unfold advA
        rw [if_neg (by
          rintro (z | z)
          · rw [c1] at z
            cases z
          · exact c3 z)]
        simp only [es]
        have eq : (g2 - (a.val + ((g1 - a.val) / s + 1) * s)) / s = (g2 - a.val) / s - ((g1 - a.val) / s + 1) := by
          have r1 : g2 - (a.val + ((g1 - a.val) / s + 1) * s) = (g2 - a.val) + s * (-((g1 - a.val) / s + 1)) := by
            rw [Int.mul_neg, Int.mul_comm s]
            omega
          rw [r1, Int.add_mul_ediv_left _ _ (by omega : s ≠ 0)]
          omega
        rw [eq]
        have r2 : ((g2 - a.val) / s - ((g1 - a.val) / s + 1) + 1) * s = ((g2 - a.val) / s + 1) * s - ((g1 - a.val) / s + 1) * s := by
          rw [← Int.sub_mul]
          congr 1
          omega
        rw [r2]
        congr 2
        omega
theorem adv_adv {M : Mp N} (hs : Stp M) {g1 g2 : Int} (h : g1 ≤ g2) : adv (adv M g1) g2 = adv M g2 := by
  funext n
  unfold adv
  cases e : M n with
  | none => rfl
  | some a => exact advA_adv h fun s es => hs n a s e es
theorem Told.comp {M : Mp N} (hs : Stp M) {g1 g2 : Int} (h : g1 ≤ g2) {t1 t2 : List (Tr N)} (h1 : Told M g1 t1) (h2 : Told (adv M g1) g2 t2) : Told M g2 (t1 ++ t2) := by
  refine ⟨List.pairwise_append.mpr ⟨h1.srt, h2.srt, fun x hx y hy => ?_⟩, fun x => ?_⟩
  · have a := ((h1.mem x).mp hx).2
    have b := ((rings_adv hs).mp ((h2.mem y).mp hy).1).2
    exact .inl (by omega)
  · rw [List.mem_append, h1.mem, h2.mem, rings_adv hs]
    constructor
    · rintro (⟨a, b⟩ | ⟨⟨a, _⟩, c⟩)
      · exact ⟨a, by omega⟩
      · exact ⟨a, c⟩
    · rintro ⟨a, b⟩
      by_cases c : x.1 ≤ g1
      · exact .inl ⟨a, c⟩
      · exact .inr ⟨⟨a, by omega⟩, b⟩
theorem Told.set {M : Mp N} {g n : Int} {t : List (Tr N)} {a : Al N} (h : Told M g t) (hn : M n = none) (hg : g < a.val) (hs : ∀ s, a.step = some s → 1 ≤ s) : Told (setM M n (some a)) g t := by
  refine ⟨h.srt, fun x => ?_⟩
  rw [h.mem]
  constructor
  · rintro ⟨⟨b, h1, h2⟩, h3⟩
    have e : x.2.1 ≠ n := fun z => by
      rw [z, hn] at h1
      cases h1
    exact ⟨⟨b, by rw [setM_ne e]; exact h1, h2⟩, h3⟩
  · rintro ⟨⟨b, h1, h2, h4, h5⟩, h3⟩
    have e : x.2.1 ≠ n := fun z => by
      rw [z, setM_same] at h1
      cases h1
      have := hits_ge h5 hs
      omega
    rw [setM_ne e] at h1
    exact ⟨⟨b, h1, h2, h4, h5⟩, h3⟩
theorem adv_set {M : Mp N} {g n : Int} {a : Al N} (hg : g < a.val) : adv (setM M n (some a)) g = setM (adv M g) n (some a) := by
  funext j
  unfold adv
  by_cases e : j = n
  · subst e
    rw [setM_same, setM_same]
    show advA g a = _
    unfold advA
    rw [if_pos (.inr hg)]
  · rw [setM_ne e, setM_ne e]
theorem Told.nil {g : Int} : Told (fun _ => none : Mp N) g [] := ⟨.nil, fun x => ⟨fun h => (nomatch h), fun ⟨⟨a, h, _⟩, _⟩ => by cases h⟩⟩
end
/-- the alarms of a list: all of the name nm -/
def mpOf {N : Type} (nm : N) (as : List (Int × Option Int)) : Mp N := fun n => if n < 0 then none else (as[n.toNat]?).map fun p => ⟨nm, p.2, false, p.1⟩
section
variable {N : Type} {nm : N} {as : List (Int × Option Int)}
theorem mpOf_at {i : Nat} : mpOf nm as (i : Int) = (as[i]?).map fun p => ⟨nm, p.2, false, p.1⟩ := by
  unfold mpOf
  rw [if_neg (by omega)]
  rfl
theorem mpOf_some {n : Int} {a : Al N} (h : mpOf nm as n = some a) : ∃ i p, n = ((i : Nat) : Int) ∧ as[i]? = some p ∧ a = ⟨nm, p.2, false, p.1⟩ := by
  unfold mpOf at h
  by_cases c : n < 0
  · rw [if_pos c] at h
    cases h
  · rw [if_neg c] at h
    cases e : as[n.toNat]? with
    | none =>
      rw [e] at h
      cases h
    | some p =>
      rw [e] at h
      cases h
      exact ⟨n.toNat, p, by omega, e, rfl⟩
theorem mpOf_nil : mpOf nm [] = fun _ => none := by
  funext n
  unfold mpOf
  split
  · rfl
  · rfl
theorem mpOf_snoc {p : Int × Option Int} : mpOf nm (as ++ [p]) = setM (mpOf nm as) as.length (some ⟨nm, p.2, false, p.1⟩) := by
  funext n
  by_cases e : n = as.length
  · subst e
    rw [setM_same, mpOf_at, List.getElem?_append_right (Nat.le_refl _), Nat.sub_self]
    rfl
  · rw [setM_ne e]
    unfold mpOf
    by_cases c : n < 0
    · rw [if_pos c, if_pos c]
    · rw [if_neg c, if_neg c]
      by_cases c2 : n.toNat < as.length
      · rw [List.getElem?_append_left c2]
      · rw [List.getElem?_eq_none (by rw [List.length_append, List.length_singleton]; omega), List.getElem?_eq_none (by omega)]
theorem mpOf_free : mpOf nm as as.length = none := by
  rw [mpOf_at, List.getElem?_eq_none (Nat.le_refl _)]
  rfl
theorem mpOf_stp (h : ∀ p ∈ as, ∀ s, p.2 = some s → 1 ≤ s) : Stp (mpOf nm as) := fun n a s ha hs => by
  obtain ⟨i, p, rfl, hi, rfl⟩ := mpOf_some ha
  exact h p (List.mem_of_getElem? hi) s hs
theorem rings_mpOf {x : Tr N} : Rings (mpOf nm as) x ↔ ∃ i p, as[i]? = some p ∧ x.2.1 = ((i : Nat) : Int) ∧ x.2.2 = nm ∧ Hits (⟨nm, p.2, false, p.1⟩ : Al N) x.1 := by
  constructor
  · rintro ⟨a, ha, _, h2, h3⟩
    obtain ⟨i, p, e, hi, rfl⟩ := mpOf_some ha
    exact ⟨i, p, hi, e, h2, h3⟩
  · rintro ⟨i, p, hi, e, h2, h3⟩
    exact ⟨⟨nm, p.2, false, p.1⟩, by rw [e, mpOf_at, hi]; rfl, rfl, h2, h3⟩
/-- so many rings at the most, in a stretch -/
theorem few_stretch {now t : Int} (h8 : as.length ≤ 8) (hs : ∀ p ∈ as, ∀ s, p.2 = some s → 1 ≤ s) (ht : t ≤ 8 ∨ ∀ p ∈ as, p.2 = none) (l : List (Tr N)) (hn : l.Nodup) (hl : ∀ x ∈ l, Rings (adv (mpOf nm as) now) x ∧ x.1 ≤ now + t) : l.length ≤ 80 := by
  have len : ((List.range 8).flatMap fun (i : Nat) => ((match as[i]? with | some p => p.1 | none => 0), (i : Int), nm) :: (List.range 9).map fun (j : Nat) => (now + (j : Int), (i : Int), nm)).length = 80 := rfl
  rw [← len]
  refine nodup_sub l _ hn fun x hx => ?_
  obtain ⟨h1, h2⟩ := hl x hx
  obtain ⟨h3, h4⟩ := (rings_adv (mpOf_stp hs)).mp h1
  obtain ⟨i, p, hi, e1, e2, h5⟩ := rings_mpOf.mp h3
  have hi8 := (List.getElem?_eq_some_iff.mp hi).1
  refine List.mem_flatMap.mpr ⟨i, List.mem_range.mpr (by omega), ?_⟩
  obtain ⟨x1, x2, x3⟩ := x
  simp only at e1 e2 h4 h2 h5
  subst e1 e2
  rw [hi]
  rcases ht with ht | ht
  · refine List.mem_cons_of_mem _ (List.mem_map.mpr ⟨(x1 - now).toNat, List.mem_range.mpr (by omega), ?_⟩)
    rw [Int.toNat_of_nonneg (by omega)]
    congr 1
    omega
  · have := ht p (List.mem_of_getElem? hi)
    unfold Hits at h5
    simp only [this] at h5
    rw [h5]
    exact List.mem_cons_self
theorem sort_told {M : Mp N} {g : Int} {ps T : List (Tr N)} (hnm : ∀ x, Rings M x → x.2.2 = nm) (hp : T.Perm ps) (hs : T.Pairwise fun a b => ¬ lt2 b.1 b.2.1 a.1 a.2.1) (hn : ps.Nodup) (hm : ∀ x, x ∈ ps ↔ Rings M x ∧ x.1 ≤ g) : Told M g T := by
  have hm2 : ∀ x, x ∈ T ↔ Rings M x ∧ x.1 ≤ g := fun x => by rw [hp.mem_iff, hm]
  refine ⟨?_, hm2⟩
  have nd : T.Pairwise (· ≠ ·) := List.nodup_iff_pairwise_ne.mp (hp.nodup_iff.mpr hn)
  refine (List.Pairwise.imp_of_mem (fun {a b} ha hb h => ?_) (hs.and nd))
  obtain ⟨h1, h2⟩ := h
  unfold lt2 at h1 ⊢
  have na := hnm a ((hm2 a).mp ha).1
  have nb := hnm b ((hm2 b).mp hb).1
  have : ¬ (a.1 = b.1 ∧ a.2.1 = b.2.1) := fun ⟨z1, z2⟩ => h2 (Prod.ext z1 (Prod.ext z2 (by rw [na, nb])))
  omega
end
end TkM
set_option Elab.async false
set_option linter.all false
set_option maxRecDepth 100000
set_option maxHeartbeats 4000000
namespace L2.TK
open PySem TkM
theorem at_modI {is : List Int} {v n : Int} (hn : n = (is.length : Int)) (h : 0 < n) : ∃ i, i ∈ is ∧ atI (is.map V.int) (v.fmod n) = some (V.int i) := by
  obtain ⟨x, h1, h2⟩ := at_mod (xs := is.map V.int) (v := v) (by rw [List.length_map]; exact hn) h
  obtain ⟨i, h3, rfl⟩ := List.mem_map.mp h2
  exact ⟨i, h3, h1⟩
theorem sqKeep {K : PySem.W.Frag} {H H' : Hp} {a : Addr} {xs : List V} (h : SqL K H a xs) (e : Same H H') : SqL K H' a xs :=
  h.elim (fun h => .inl (h.elim (fun h => .inl (e _ _ h)) fun ⟨o, h⟩ => .inr ⟨o, e _ _ h⟩)) .inr
theorem Ch.old {F : Addr → Prop} {H0 H : Hp} (c : Ch (fun _ => False) F H0 H) : Same H0 H := fun a o e => c.kp a o e (fun z => z)
def wkv (S l now many : Int) (wa ra : Addr) : List (Key × V) := [(Sum.inr "slots", .int S), (Sum.inr "levels", .int l), (Sum.inr "now", .int now), (Sum.inr "many", .int many), (Sum.inr "waits", .ref wa), (Sum.inr "rests", .ref ra)]
section
variable {S l now many : Int} {wa ra : Addr}
theorem wkv_slots : valV (wkv S l now many wa ra) (Sum.inr "slots") = some (.int S) := by rfl
theorem wkv_levels : valV (wkv S l now many wa ra) (Sum.inr "levels") = some (.int l) := by rfl
theorem wkv_now : valV (wkv S l now many wa ra) (Sum.inr "now") = some (.int now) := by rfl
theorem wkv_many : valV (wkv S l now many wa ra) (Sum.inr "many") = some (.int many) := by rfl
theorem wkv_waits : valV (wkv S l now many wa ra) (Sum.inr "waits") = some (.ref wa) := by rfl
theorem wkv_rests : valV (wkv S l now many wa ra) (Sum.inr "rests") = some (.ref ra) := by rfl
theorem wkv_putNow {n : Int} : putK (wkv S l now many wa ra) (Sum.inr "now") (.int n) = wkv S l n many wa ra := by rfl
theorem wkv_putMany {n : Int} : putK (wkv S l now many wa ra) (Sum.inr "many") (.int n) = wkv S l now n wa ra := by rfl
theorem wkv_merge : mergeK [] (wkv S l now many wa ra) = wkv S l now many wa ra := by rfl
end
def spNew : Sp := fun vs H Q _ => ∃ (S l : Int), vs = [.int S, .int l] ∧ ∀ (x wa ra : Addr) (H' : Hp), H x = none → H wa = none → H ra = none → x ≠ wa → x ≠ ra → wa ≠ ra → Same H H' → H' x = some (.dK (wkv S l 0 0 wa ra)) → H' wa = some (.dK []) → H' ra = some (.dK []) → Q (.ref x) H'
def gdW (S l : Int) : Prop := 2 ≤ S ∧ S ≤ 64 ∧ 1 ≤ l ∧ l ≤ 6
def spLW (K : PySem.W.Frag) : Sp := fun vs H Q _ => ∃ (a : Addr) (ns : List Int) (k : Int), vs = [.ref a, .int k] ∧ SqL K H a (ns.map V.int) ∧ ns.length ≤ 63 ∧ ∀ (S l : Int) (p : Addr) (H' : Hp), gdW S l → Same H H' → H' p = some (.tup [.int S, .int l]) → Q (.ref p) H'
def spLT (K : PySem.W.Frag) : Sp := fun vs H Q _ => ∃ (a x : Addr) (ns : List Int) (k S l now many : Int) (wa ra : Addr), vs = [.ref a, .int k, .ref x] ∧ SqL K H a (ns.map V.int) ∧ ns.length ≤ 63 ∧ 2 ≤ S ∧ S ≤ 64 ∧ H x = some (.dK (wkv S l now many wa ra)) ∧ ∀ (t : Int) (H' : Hp), 0 ≤ t → t < 2 ^ 59 → Same H H' → Q (.int t) H'
section
variable {P : Program} {w : World} {K : PySem.W.Frag} {mg : Str → Option Value} {base : Heap} {CW CA CB CT CBad CPast CNot : Addr}
theorem scNew : FnScope ["_law_slots", "_law_levels"] ["_law_slots", "_law_levels"] (defScope s_law_new) := ⟨rfl, rfl, rfl, by decide +kernel, rfl, by decide +kernel, by decide +kernel⟩
theorem ok_New {f : Addr} {fd : FuncData} (F : Fun K "_law_new" "_law_new" s_law_new f fd) : FnOk P w K mg base CX0 1 f fd ["_law_slots", "_law_levels"] spNew := by
  refine F.ok scNew (fun vs H Q E h => ?_) (fun cdv A outer s H vs Q E hr h => ?_)
  · obtain ⟨S, l, rfl, _⟩ := h
    rfl
  · obtain ⟨S, l, rfl, k⟩ := h
    refine ⟨_, pss_one (ps_ret (pe_disp (pps_cons pe_str (pv 0) (pps_cons pe_str (pv 1) (pps_cons pe_str pe_int (pps_cons pe_str pe_int (pps_cons pe_str pe_dnewK (pps_cons pe_str pe_dnewK pps_nil)))))) (by rfl) (by rfl) (fun z => by cases z) (by decide))), ?_⟩
    intro x hx
    refine ⟨_, rfl, _, rfl, fun wa hwa ra hra => ?_⟩
    have n1 : x ≠ wa := fun z => by
      rw [← z, upd_same] at hwa
      cases hwa
    have n2 : wa ≠ ra := fun z => by
      rw [← z, upd_same] at hra
      cases hra
    have n3 : x ≠ ra := fun z => by
      rw [← z, upd_ne n1, upd_same] at hra
      cases hra
    have hwa0 : H wa = none := by
      rw [upd_ne n1.symm] at hwa
      exact hwa
    have hra0 : H ra = none := by
      rw [upd_ne n2.symm, upd_ne n3.symm] at hra
      exact hra
    refine ⟨by rw [upd_ne n3, upd_ne n1, upd_same], wkv S l 0 0 wa ra, rfl, by show 6 ≤ 15; decide, ?_⟩
    rw [wkv_merge]
    refine k x wa ra _ hx hwa0 hra0 n1 n3 n2 (fun a o e => ?_) upd_same ?_ ?_
    · rw [upd_ne (ne_of_none e hx), upd_ne (ne_of_none e hra0), upd_ne (ne_of_none e hwa0), upd_ne (ne_of_none e hx)]
      exact e
    · rw [upd_ne n1.symm, upd_ne n2, upd_same]
    · rw [upd_ne n3.symm, upd_same]
theorem scLW : FnScope ["_law_script", "_law_k", "_law_number"] ["_law_script", "_law_k"] (defScope s_law_wheels) := ⟨rfl, rfl, rfl, by decide +kernel, rfl, by decide +kernel, by decide +kernel⟩
theorem ok_LW {f : Addr} {fd : FuncData} (F : Fun K "_law_wheels" "_law_wheels" s_law_wheels f fd) (GX : GFn P w K mg base CX0 2 "_law_mix" ["_law_script", "_law_k"] (spMix K)) : FnOk P w K mg base CX0 3 f fd ["_law_script", "_law_k"] (spLW K) := by
  obtain ⟨fX, fdX, gX, kX, bX, GX⟩ := GX
  refine F.ok scLW (fun vs H Q E h => ?_) (fun cdv A outer s H vs Q E hr h => ?_)
  · obtain ⟨a, ns, k, rfl, _⟩ := h
    rfl
  · obtain ⟨a, ns, k, rfl, hS, hl, q⟩ := h
    refine ⟨_, pss_cons (ps_set (i := 2) scLW.nd rfl (Or.inl rfl) (pe_call GX hr rfl gX kX bX .nil pass0 (pa_cons (pv 0) (pa_cons (pv 1) pa_nil))))
      (pss_one (ps_ret (pe_tup (pa_cons (pe_ix ix_list (pe_lst (pa_cons pe_int (pa_cons pe_int (pa_cons pe_int (pa_cons pe_int (pa_cons pe_int (pa_cons pe_int pa_nil))))))) (pe_op op_modN (pv 2) pe_int) (fun _ _ => rfl))
        (pa_cons (pe_ix ix_list (pe_lst (pa_cons pe_int (pa_cons pe_int (pa_cons pe_int (pa_cons pe_int (pa_cons pe_int (pa_cons pe_int pa_nil))))))) (pe_op op_modN (pe_op op_fdivW (pv 2) pe_int) pe_int) (fun _ _ => rfl)) pa_nil))))), ?_⟩
    refine ⟨_, rfl, _, rfl, a, ns, k, rfl, hS, hl, fun v _ _ => ?_⟩
    refine ⟨Nat.le_of_lt (small1000 (by decide)), fun p1 hp1 => ?_⟩
    obtain ⟨S, hSm, a1⟩ := at_modI (is := [2, 2, 3, 4, 10, 64]) (v := v) (n := 6) rfl (by decide)
    refine ⟨_, rfl, _, _, rfl, rfl, nz (by decide), p1, _, _, _, rfl, rfl, SqL.of upd_same, a1, ?_⟩
    refine ⟨Nat.le_of_lt (small1000 (by decide)), fun p2 hp2 => ?_⟩
    obtain ⟨l, hlm, a2⟩ := at_modI (is := [1, 2, 3, 4, 5, 6]) (v := v / 6) (n := 6) rfl (by decide)
    refine ⟨_, rfl, _, _, rfl, rfl, wdiv (by decide) (by decide), _, _, rfl, rfl, nz (by decide), p2, _, _, _, rfl, rfl, SqL.of upd_same, a2, ?_⟩
    refine ⟨(by show 2 ≤ sizeLine; decide), fun p3 hp3 => ?_⟩
    refine q S l p3 _ ?_ (((Same.new hp1).trans (Same.new hp2)).trans (Same.new hp3)) upd_same
    unfold gdW
    simp only [List.mem_cons, List.not_mem_nil, or_false] at hSm hlm
    omega
theorem scLT : FnScope ["_law_script", "_law_k", "_law_world", "_law_number", "_law_span", "_law_j", "_law_some"] ["_law_script", "_law_k", "_law_world"] (defScope s_law_ticks) := ⟨rfl, rfl, rfl, by decide +kernel, rfl, by decide +kernel, by decide +kernel⟩
theorem ok_LT {f : Addr} {fd : FuncData} (F : Fun K "_law_ticks" "_law_ticks" s_law_ticks f fd) (T : Txt K mg CW CA CB CT CBad CPast CNot) (GX : GFn P w K mg base CX0 2 "_law_mix" ["_law_script", "_law_k"] (spMix K)) : FnOk P w K mg base CX0 3 f fd ["_law_script", "_law_k", "_law_world"] (spLT K) := by
  obtain ⟨fX, fdX, gX, kX, bX, GX⟩ := GX
  refine F.ok scLT (fun vs H Q E h => ?_) (fun cdv A outer s H vs Q E hr h => ?_)
  · obtain ⟨a, x, ns, k, S, l, now, many, wa, ra, rfl, _⟩ := h
    rfl
  · obtain ⟨a, x, ns, k, S, l, now, many, wa, ra, rfl, hS, hl, g1, g2, hx, q⟩ := h
    have hu := hu_of hr
    refine ⟨_, pss_cons (ps_set (i := 3) scLT.nd rfl (Or.inl rfl) (pe_call GX hr rfl gX kX bX .nil pass0 (pa_cons (pv 0) (pa_cons (pv 1) pa_nil))))
      (pss_cons (ps_set (i := 4) scLT.nd rfl (Or.inl rfl) pe_int)
      (pss_cons (ps_for PassesOwn.never rfl (pi_range1 rfl T.range (pa_cons (pe_op op_modN (pe_op op_fdivW (pv 3) pe_int) pe_int) pa_nil)) (pg_name (i := 5) scLT.nd rfl (Or.inl rfl))
        (pss_one (ps_set (i := 4) scLT.nd rfl (Or.inl rfl) (pe_op op_mul (pv 4) (pe_dget hu (pv 2) pe_str (fun _ _ => rfl))))))
      (pss_cons (ps_set (i := 6) scLT.nd rfl (Or.inl rfl) (pe_lst (pa_cons (pe_op op_modN (pe_op op_fdivW (pv 3) pe_int) pe_int) (pa_cons (pv 4) (pa_cons (pe_op op_sub (pv 4) pe_int) (pa_cons (pe_op op_add (pv 4) pe_int) (pa_cons (pe_op op_modN (pe_op op_fdivW (pv 3) pe_int) pe_int) (pa_cons (pe_op op_modN (pe_op op_fdivW (pv 3) pe_int) (pe_op op_mul (pv 4) pe_int)) pa_nil))))))))
      (pss_one (ps_ret (pe_ix ix_list (pe_op op_cat (pv 6) (pe_lst (pa_cons (pe_op op_modN (pe_op op_fdivW (pv 3) pe_int) pe_int) (pa_cons pe_int pa_nil)))) (pe_op op_modN (pv 3) pe_int) (fun _ _ => rfl))))))), ?_⟩
    refine ⟨_, rfl, _, rfl, a, ns, k, rfl, hS, hl, fun v v0 _ => ?_⟩
    have hv : 0 ≤ (v / 8).fmod 7 ∧ (v / 8).fmod 7 < 7 := by
      rw [fmodP (by decide)]
      omega
    refine ⟨_, rfl, _, _, rfl, rfl, wdiv (by decide) (by decide), _, _, rfl, rfl, nz (by decide), ?_⟩
    refine ⟨_, rfl, by omega, by omega, for_range (lo := 0) (n := ((v / 8).fmod 7).toNat) (fun i sg H' => H' = H ∧ ∃ (z : Int) (u : Option V), (1 ≤ z ∧ z ≤ 64 ^ i) ∧ sg = [some (.ref a), some (.int k), some (.ref x), some (.int v), some (.int z), u, none]) ⟨rfl, 1, none, by decide, rfl⟩ ?_ ?_⟩
    · rintro i sg H' hi ⟨rfl, z, u, hz, rfl⟩
      refine ⟨_, rfl, _, rfl, x, _, rfl, by rw [← wkv_slots]; exact DGet.k (k := Sum.inr "slots") hx, _, _, rfl, rfl, .inr ⟨by omega, by omega⟩, rfl, z * S, _, ⟨?_, ?_⟩, rfl⟩
      · have := Int.mul_le_mul hz.1 (by omega : 1 ≤ S) (by decide) (by omega)
        omega
      · rw [Int.pow_succ]
        exact Int.mul_le_mul hz.2 g2 (by omega) (Int.le_of_lt (Int.pow_pos (by decide)))
    rintro sg H' ⟨rfl, z, u, ⟨hz, hz2⟩, rfl⟩
    have hz3 : z ≤ 64 ^ 6 := by
      have : ((v / 8).fmod 7).toNat ≤ 6 := by omega
      rcases (by omega : ((v / 8).fmod 7).toNat = 0 ∨ ((v / 8).fmod 7).toNat = 1 ∨ ((v / 8).fmod 7).toNat = 2 ∨ ((v / 8).fmod 7).toNat = 3 ∨ ((v / 8).fmod 7).toNat = 4 ∨ ((v / 8).fmod 7).toNat = 5 ∨ ((v / 8).fmod 7).toNat = 6) with e | e | e | e | e | e | e <;> rw [e] at hz2 <;> exact Int.le_trans hz2 (by decide)
    have hz3 : z ≤ 68719476736 := hz3
    refine ⟨_, rfl, _, _, rfl, rfl, wdiv (by decide) (by decide), _, _, rfl, rfl, nz (by decide), _, rfl, _, rfl, _, _, rfl, rfl, _, rfl, _, _, rfl, rfl, _, rfl, _, _, rfl, rfl, wdiv (by decide) (by decide), _, _, rfl, rfl, nz (by decide),
      _, rfl, _, _, rfl, rfl, wdiv (by decide) (by decide), _, rfl, _, _, rfl, rfl, .inr (by decide), _, _, rfl, rfl, nz (by omega), Nat.le_of_lt (small1000 (by show 6 ≤ 1000; decide)), fun p1 hp1 => ?_⟩
    refine ⟨_, rfl, _, rfl, _, _, rfl, rfl, wdiv (by decide) (by decide), _, _, rfl, rfl, nz (by decide), Nat.le_of_lt (small1000 (by show 2 ≤ 1000; decide)), fun p2 hp2 => ?_⟩
    have s2 := Same.new (o := .lst [.int ((v / 64).fmod 20), .int 10000000000000]) hp2
    refine ⟨p1, p2, _, _, rfl, rfl, s2 _ _ upd_same, upd_same, Nat.le_of_lt (small1000 (by show 8 ≤ 1000; decide)), fun p3 hp3 => ?_⟩
    obtain ⟨t, ht, a1⟩ := at_modI (is := [(v / 64).fmod 5, z, z - 1, z + 1, (v / 64).fmod 200, (v / 64).fmod (z * 3), (v / 64).fmod 20, 10000000000000]) (v := v) (n := 8) rfl (by decide)
    refine ⟨_, rfl, _, _, rfl, rfl, nz (by decide), p3, _, _, _, rfl, rfl, SqL.of upd_same, a1, ?_⟩
    refine q t _ ?_ ?_ (((Same.new hp1).trans (Same.new hp2)).trans (Same.new hp3))
    all_goals
      have m1 : ∀ b : Int, 0 < b → 0 ≤ (v / 64).fmod b ∧ (v / 64).fmod b < b := fun b hb => by
        rw [fmodP hb]
        exact ⟨Int.emod_nonneg _ (by omega), Int.emod_lt_of_pos _ hb⟩
      have m2 := m1 5 (by decide)
      have m3 := m1 200 (by decide)
      have m4 := m1 (z * 3) (by omega)
      have m5 := m1 20 (by decide)
      simp only [List.mem_cons, List.not_mem_nil, or_false] at ht
      rcases ht with h | h | h | h | h | h | h | h <;> omega
end
end L2.TK
set_option Elab.async false
set_option linter.all false
set_option maxRecDepth 100000
set_option maxHeartbeats 4000000
namespace L2.TK
open PySem TkM
/-! ### a dict number -> (name, tick, step) -/
structure DA (H : Hp) (d : Addr) (kvs : List (Key × V)) (s : Mp Str) : Prop where
  at_ : H d = some (.dK kvs)
  nd : (kvs.map (·.1)).Nodup
  ks : ∀ e ∈ kvs, ∃ n : Int, e.1 = Sum.inl n
  no : ∀ n, s n = none → valV kvs (Sum.inl n) = none
  yes : ∀ n a, s n = some a → ∃ t, valV kvs (Sum.inl n) = some (.ref t) ∧ H t = some (.tup [.str a.name, .int a.val, optI a.step])
theorem keys_put {κ : Type} [DecidableEq κ] {kvs : List (κ × V)} {k : κ} {v : V} (h : (valV kvs k).isSome = true) : (putK kvs k v).map (·.1) = kvs.map (·.1) := by
  unfold putK
  rw [valV_any, if_pos h, List.map_map]
  refine List.map_congr_left fun p _ => ?_
  show (if p.1 = k then (p.1, v) else p).1 = p.1
  split <;> rfl
theorem nd_put {κ : Type} [DecidableEq κ] {kvs : List (κ × V)} {k : κ} {v : V} (h : (kvs.map (·.1)).Nodup) : ((putK kvs k v).map (·.1)).Nodup := by
  cases e : valV kvs k with
  | none => exact nd_putK v h e
  | some x =>
    rw [keys_put (by rw [e]; rfl)]
    exact h
section
variable {H H' : Hp} {d : Addr} {kvs : List (Key × V)} {s : Mp Str}
theorem DA.keep (D : DA H d kvs s) (h1 : H' d = some (.dK kvs)) (h2 : ∀ a xs, H a = some (.tup xs) → H' a = some (.tup xs)) : DA H' d kvs s :=
  ⟨h1, D.nd, D.ks, D.no, fun n a h => let ⟨t, e1, e2⟩ := D.yes n a h; ⟨t, e1, h2 _ _ e2⟩⟩
theorem upd_tupK {D : Addr} {xs : List (Key × V)} {o : HO} (hD : H D = some (.dK xs)) : ∀ a ys, H a = some (.tup ys) → upd H D o a = some (.tup ys) := fun a ys e => by
  rw [upd_ne (ne_of e hD (by intro z; cases z))]
  exact e
theorem DA.put (D : DA H d kvs s) {n : Int} {a : Al Str} {t : Addr} (ht : H t = some (.tup [.str a.name, .int a.val, optI a.step])) : DA (upd H d (.dK (putK kvs (Sum.inl n) (.ref t)))) d (putK kvs (Sum.inl n) (.ref t)) (setM s n (some a)) := by
  have tk := upd_tupK (o := .dK (putK kvs (Sum.inl n) (.ref t))) D.at_
  refine ⟨upd_same, nd_put D.nd, fun e he => ?_, fun j hj => ?_, fun j b hj => ?_⟩
  · have : e.1 ∈ (putK kvs (Sum.inl n) (.ref t)).map (·.1) := List.mem_map.mpr ⟨e, he, rfl⟩
    cases q : valV kvs (Sum.inl n : Key) with
    | none =>
      rw [putK_new _ q, List.map_append, List.mem_append] at this
      rcases this with h | h
      · obtain ⟨e', h1, h2⟩ := List.mem_map.mp h
        rw [← h2]
        exact D.ks e' h1
      · exact ⟨n, List.mem_singleton.mp h⟩
    | some v =>
      rw [keys_put (by rw [q]; rfl)] at this
      obtain ⟨e', h1, h2⟩ := List.mem_map.mp this
      rw [← h2]
      exact D.ks e' h1
  · rw [valV_put]
    by_cases e : j = n
    · rw [e, setM_same] at hj
      cases hj
    · rw [setM_ne e] at hj
      rw [if_neg (fun z => e (Sum.inl.inj z))]
      exact D.no j hj
  · rw [valV_put]
    by_cases e : j = n
    · subst e
      rw [setM_same] at hj
      cases hj
      exact ⟨t, if_pos rfl, tk _ _ ht⟩
    · rw [setM_ne e] at hj
      obtain ⟨u, e1, e2⟩ := D.yes j b hj
      exact ⟨u, by rw [if_neg (fun z => e (Sum.inl.inj z))]; exact e1, tk _ _ e2⟩
theorem DA.drop (D : DA H d kvs s) (n : Int) : DA (upd H d (.dK (dropK kvs (Sum.inl n)))) d (dropK kvs (Sum.inl n)) (setM s n none) := by
  have tk := upd_tupK (o := .dK (dropK kvs (Sum.inl n))) D.at_
  refine ⟨upd_same, nd_dropK D.nd, fun e he => D.ks e (dropK_mem he), fun j hj => ?_, fun j b hj => ?_⟩
  · rw [valV_drop]
    by_cases e : j = n
    · rw [e, if_pos rfl]
    · rw [if_neg (fun z => e (Sum.inl.inj z))]
      rw [setM_ne e] at hj
      exact D.no j hj
  · by_cases e : j = n
    · rw [e, setM_same] at hj
      cases hj
    · rw [setM_ne e] at hj
      obtain ⟨u, e1, e2⟩ := D.yes j b hj
      exact ⟨u, by rw [valV_drop, if_neg (fun z => e (Sum.inl.inj z))]; exact e1, tk _ _ e2⟩
theorem DA.size (D : DA H d kvs s) {many : Int} (h : ∀ n a, s n = some a → 0 ≤ n ∧ n < many) (hm : many ≤ 1000) : kvs.length ≤ 1000 := by
  have e : (kvs.map (·.1)).length ≤ ((List.range 1000).map fun (n : Nat) => (Sum.inl (n : Int) : Key)).length := by
    refine nodup_sub _ _ D.nd fun y hy => ?_
    obtain ⟨p, hp, rfl⟩ := List.mem_map.mp hy
    obtain ⟨n, hn⟩ := D.ks p hp
    cases q : s n with
    | none =>
      have h1 := D.no n q
      have h2 := valV_mem (k := p.1) (v := p.2) D.nd hp
      rw [hn, h1] at h2
      cases h2
    | some a =>
      obtain ⟨h1, h2⟩ := h n a q
      rw [hn, List.mem_map]
      exact ⟨n.toNat, List.mem_range.mpr (by omega), by rw [Int.toNat_of_nonneg h1]⟩
  simpa using e
end
/-! ### who waits, who rests -/
def sel (r : Bool) (m : Mp Str) : Mp Str := fun n => match m n with
  | some a => if a.rests = r then some a else none
  | none => none
theorem sel_some {r : Bool} {m : Mp Str} {n : Int} {a : Al Str} (h : m n = some a) : sel r m n = if a.rests = r then some a else none := by
  unfold sel
  rw [h]
theorem sel_none {r : Bool} {m : Mp Str} {n : Int} (h : m n = none) : sel r m n = none := by
  unfold sel
  rw [h]
theorem of_sel {r : Bool} {m : Mp Str} {n : Int} {a : Al Str} (h : sel r m n = some a) : m n = some a ∧ a.rests = r := by
  unfold sel at h
  cases e : m n with
  | none =>
    rw [e] at h
    cases h
  | some b =>
    rw [e] at h
    have h : (if b.rests = r then some b else none) = some a := h
    by_cases c : b.rests = r
    · rw [if_pos c] at h
      cases h
      exact ⟨rfl, c⟩
    · rw [if_neg c] at h
      cases h
theorem sel_set {r : Bool} {m : Mp Str} {n : Int} {a : Al Str} : sel r (setM m n (some a)) = setM (sel r m) n (if a.rests = r then some a else none) := by
  funext j
  by_cases e : j = n
  · subst e
    rw [setM_same, sel_some setM_same]
  · rw [setM_ne e]
    unfold sel
    rw [setM_ne e]
theorem sel_del {r : Bool} {m : Mp Str} {n : Int} : sel r (setM m n none) = setM (sel r m) n none := by
  funext j
  by_cases e : j = n
  · subst e
    rw [setM_same, sel_none setM_same]
  · rw [setM_ne e]
    unfold sel
    rw [setM_ne e]
/-! ### the law's world -/
structure WO (H : Hp) (x wa ra : Addr) (S l now many : Int) (m : Mp Str) : Prop where
  ob : H x = some (.dK (wkv S l now many wa ra))
  w : ∃ ws, DA H wa ws (sel false m)
  r : ∃ rs, DA H ra rs (sel true m)
  n1 : x ≠ wa
  n2 : x ≠ ra
  n3 : wa ≠ ra
  bd : ∀ n a, m n = some a → 0 ≤ n ∧ n < many
abbrev GG (x wa ra : Addr) : Addr → Prop := fun b => b = x ∨ b = wa ∨ b = ra
section
variable {H H' : Hp} {x wa ra : Addr} {S l now many : Int} {m : Mp Str}
theorem WO.same (W : WO H x wa ra S l now many m) (s : Same H H') : WO H' x wa ra S l now many m := by
  obtain ⟨ws, w⟩ := W.w
  obtain ⟨rs, r⟩ := W.r
  exact ⟨s _ _ W.ob, ⟨ws, w.keep (s _ _ w.at_) fun a xs e => s _ _ e⟩, ⟨rs, r.keep (s _ _ r.at_) fun a xs e => s _ _ e⟩, W.n1, W.n2, W.n3, W.bd⟩
theorem WO.setX (W : WO H x wa ra S l now many m) {now' many' : Int} (hm : many ≤ many') : WO (upd H x (.dK (wkv S l now' many' wa ra))) x wa ra S l now' many' m := by
  obtain ⟨ws, w⟩ := W.w
  obtain ⟨rs, r⟩ := W.r
  have tk := upd_tupK (o := .dK (wkv S l now' many' wa ra)) W.ob
  exact ⟨upd_same, ⟨ws, w.keep (by rw [upd_ne W.n1.symm]; exact w.at_) tk⟩, ⟨rs, r.keep (by rw [upd_ne W.n2.symm]; exact r.at_) tk⟩, W.n1, W.n2, W.n3, fun n a h => by have := W.bd n a h; omega⟩
/-- the dict of those that wait is written -/
theorem WO.setW (W : WO H x wa ra S l now many m) {ws : List (Key × V)} {m' : Mp Str} (w : DA (upd H wa (.dK ws)) wa ws (sel false m')) (hr : sel true m' = sel true m) (hb : ∀ n a, m' n = some a → 0 ≤ n ∧ n < many) : WO (upd H wa (.dK ws)) x wa ra S l now many m' := by
  obtain ⟨ws0, w0⟩ := W.w
  obtain ⟨rs, r⟩ := W.r
  have tk := upd_tupK (o := .dK ws) w0.at_
  exact ⟨by rw [upd_ne W.n1]; exact W.ob, ⟨ws, w⟩, ⟨rs, by rw [hr]; exact r.keep (by rw [upd_ne W.n3.symm]; exact r.at_) tk⟩, W.n1, W.n2, W.n3, hb⟩
theorem ch_upd {x' : Addr} {o : HO} {G : Addr → Prop} (h : G x') (e : ∃ o, H x' = some o) : Ch G G H (upd H x' o) := Ch.upd h (Same.refl _)
theorem ch_g {G : Addr → Prop} (c : Ch G G H H') {H'' : Hp} {D : Addr} {o : HO} (h : G D) : Ch G G H (upd H' D o) := c.trans (Ch.upd h (Same.refl _))
end
/-! ### the deeds of the law's world -/
def spWSet : Sp := fun vs H Q _ => ∃ (x wa ra : Addr) (S l now many : Int) (m : Mp Str) (nm : Str) (due : Int) (st : Option Int), vs = [.ref x, .str nm, .int due, optI st] ∧ WO H x wa ra S l now many m ∧ 0 ≤ many ∧ many ≤ 900 ∧ m many = none ∧
  ((due ≤ now ∨ ∃ s, st = some s ∧ s < 1) → Q (.str "past") H) ∧
  (now < due → (∀ s, st = some s → 1 ≤ s) → ∀ H', WO H' x wa ra S l now (many + 1) (setM m many (some ⟨nm, st, false, due⟩)) → Ch (GG x wa ra) (GG x wa ra) H H' → Q (.int many) H')
def spWMove : Sp := fun vs H Q _ => ∃ (x wa ra : Addr) (S l now many : Int) (m : Mp Str) (n due : Int), vs = [.ref x, .int n, .int due] ∧ WO H x wa ra S l now many m ∧ many ≤ 900 ∧
  (sel false m n = none → Q (.str "there") H) ∧ ∀ a, sel false m n = some a → (due ≤ now → Q (.str "past") H) ∧
  (now < due → ∀ H', WO H' x wa ra S l now many (setM m n (some { a with val := due })) → Ch (GG x wa ra) (GG x wa ra) H H' → Q .non H')
section
variable {P : Program} {w : World} {K : PySem.W.Frag} {mg : Str → Option Value} {base : Heap} {CW CA CB CT CBad CPast CNot : Addr}
theorem scWSet : FnScope ["_law_world", "_law_name", "_law_due", "_law_step", "_law_number"] ["_law_world", "_law_name", "_law_due", "_law_step"] (defScope s_law_set) := ⟨rfl, rfl, rfl, by decide +kernel, rfl, by decide +kernel, by decide +kernel⟩
theorem ok_WSet {f : Addr} {fd : FuncData} (F : Fun K "_law_set" "_law_set" s_law_set f fd) : FnOk P w K mg base CX0 1 f fd ["_law_world", "_law_name", "_law_due", "_law_step"] spWSet := by
  refine F.ok scWSet (fun vs H Q E h => ?_) (fun cdv A outer s H vs Q E hr h => ?_)
  · obtain ⟨x, wa, ra, S, l, now, many, m, nm, due, st, rfl, _⟩ := h
    rfl
  · obtain ⟨x, wa, ra, S, l, now, many, m, nm, due, st, rfl, W, hm0, hm, hfree, kE, k⟩ := h
    have hu := hu_of hr
    refine ⟨_, C8.pss_cut (ps_if (PW.pt (pw_or (pt_cmpR op_le (pv 2) (pe_dget hu (pv 0) pe_str (fun _ _ => rfl)) (nomark _)) (pw_or1 (PW.pt (pw_and (pt_cmp (pc_notN (pv 3))) (pw_and1 (pt_cmpR op_lt (pv 3) pe_int (nomark _)))))))) (pss_one (ps_ret pe_str)) pss_nil)
      (pss_cons (ps_set (i := 4) scWSet.nd rfl (Or.inl rfl) (pe_dget hu (pv 0) pe_str (fun _ _ => rfl)))
      (pss_cons (ps_dput hu (pv 0) pe_str (pe_op op_add (pv 4) pe_int) rfl)
      (pss_cons (ps_dput hu (pe_dget hu (pv 0) pe_str (fun _ _ => rfl)) (pv 4) (pe_tup (pa_cons (pv 1) (pa_cons (pv 2) (pa_cons (pv 3) pa_nil)))) rfl)
      (pss_one (ps_ret (pv 4)))))), ?_⟩
    refine ⟨fun sg H' => sg = [some (.ref x), some (.str nm), some (.int due), some (optI st), none] ∧ H' = H ∧ now < due ∧ ∀ s, st = some s → 1 ≤ s, ?_, ?_⟩
    · refine ⟨_, rfl, _, rfl, x, _, rfl, by rw [← wkv_now]; exact DGet.k (k := Sum.inr "now") W.ob, _, _, rfl, rfl, _, rfl, if2 (fun c => iteT (kE (.inl c))) fun c => ?_⟩
      refine ⟨_, rfl, _, rfl, ?_⟩
      cases st with
      | none =>
        refine iteF ?_
        exact iteF ⟨rfl, rfl, by omega, fun s h => (nomatch h)⟩
      | some s =>
        refine iteT ⟨_, rfl, _, _, rfl, rfl, _, rfl, if2 (fun c2 => kE (.inr ⟨s, rfl, c2⟩)) fun c2 => ⟨rfl, rfl, by omega, fun s' h => ?_⟩⟩
        cases h
        omega
    · rintro sg H0 ⟨rfl, rfl, hd, hs⟩
      refine ⟨_, rfl, x, _, rfl, by rw [← wkv_many]; exact DGet.k (k := Sum.inr "many") W.ob, ?_⟩
      refine ⟨_, rfl, _, _, rfl, rfl, _, rfl, x, _, rfl, DPut.k (k := Sum.inr "many") W.ob (small1000 (by show 6 ≤ 1000; decide)), ?_⟩
      rw [wkv_putMany]
      have W1 := W.setX (now' := now) (many' := many + 1) (by omega)
      have c1 : Ch (GG x wa ra) (GG x wa ra) H0 (upd H0 x (.dK (wkv S l now (many + 1) wa ra))) := Ch.upd (.inl rfl) (Same.refl _)
      generalize upd H0 x (.dK (wkv S l now (many + 1) wa ra)) = H1 at W1 c1
      refine ⟨_, rfl, _, rfl, _, rfl, (by show 3 ≤ sizeLine; decide), fun t ht => ?_⟩
      have s2 := Same.new (o := .tup [.str nm, .int due, optI st]) ht
      have W2 := W1.same s2
      obtain ⟨ws, D2⟩ := W2.w
      have hz := D2.size (fun n a h => W2.bd n a (of_sel h).1) (by omega)
      refine ⟨_, rfl, x, _, rfl, by rw [← wkv_waits]; exact DGet.k (k := Sum.inr "waits") W2.ob, _, rfl, wa, _, rfl, DPut.k (k := Sum.inl many) D2.at_ (small1000 hz), ?_⟩
      have D3 := D2.put (n := many) (a := ⟨nm, st, false, due⟩) (t := t) upd_same
      have e1 : setM (sel false m) many (some ⟨nm, st, false, due⟩) = sel false (setM m many (some ⟨nm, st, false, due⟩)) := by rw [sel_set]; rfl
      rw [e1] at D3
      refine ⟨_, rfl, k hd hs _ (W2.setW D3 ?_ fun n a h => ?_) ((c1.trans (Same.ch s2)).trans (Ch.upd (.inr (.inl rfl)) (Same.refl _)))⟩
      · rw [sel_set]
        exact setM_self (sel_none hfree)
      · by_cases e : n = many
        · omega
        · rw [setM_ne e] at h
          exact W2.bd n a h
theorem scWMove : FnScope ["_law_world", "_law_number", "_law_due", "_law_one"] ["_law_world", "_law_number", "_law_due"] (defScope s_law_move) := ⟨rfl, rfl, rfl, by decide +kernel, rfl, by decide +kernel, by decide +kernel⟩
theorem ok_WMove {f : Addr} {fd : FuncData} (F : Fun K "_law_move" "_law_move" s_law_move f fd) : FnOk P w K mg base CX0 1 f fd ["_law_world", "_law_number", "_law_due"] spWMove := by
  refine F.ok scWMove (fun vs H Q E h => ?_) (fun cdv A outer s H vs Q E hr h => ?_)
  · obtain ⟨x, wa, ra, S, l, now, many, m, n, due, rfl, _⟩ := h
    rfl
  · obtain ⟨x, wa, ra, S, l, now, many, m, n, due, rfl, W, hm, kN, kS⟩ := h
    have hu := hu_of hr
    refine ⟨_, pss_cons (ps_if (pt_cmp (pc_dnotin hu (pv 1) (pe_dget hu (pv 0) pe_str (fun _ _ => rfl)))) (pss_one (ps_ret pe_str)) pss_nil)
      (pss_cons (ps_if (pt_cmpR op_le (pv 2) (pe_dget hu (pv 0) pe_str (fun _ _ => rfl)) (nomark _)) (pss_one (ps_ret pe_str)) pss_nil)
      (pss_cons (ps_set (i := 3) scWMove.nd rfl (Or.inl rfl) (pe_dget hu (pe_dget hu (pv 0) pe_str (fun _ _ => rfl)) (pv 1) (fun _ _ => rfl)))
      (pss_cons (ps_dput hu (pe_dget hu (pv 0) pe_str (fun _ _ => rfl)) (pv 1) (pe_tup (pa_cons (pe_ix ix_tup (pv 3) pe_int (fun _ _ => rfl)) (pa_cons (pv 2) (pa_cons (pe_ix ix_tup (pv 3) pe_int (fun _ _ => rfl)) pa_nil)))) rfl)
      (pss_one (ps_ret pe_non))))), ?_⟩
    obtain ⟨ws, D⟩ := W.w
    refine ⟨_, rfl, _, rfl, x, _, rfl, by rw [← wkv_waits]; exact DGet.k (k := Sum.inr "waits") W.ob, wa, _, rfl, DGet.k (k := Sum.inl n) D.at_, _, rfl, ?_⟩
    cases hs : sel false m n with
    | none =>
      rw [D.no n hs]
      exact iteT (kN hs)
    | some a =>
      obtain ⟨t, y1, y2⟩ := D.yes n a hs
      obtain ⟨k1, k2⟩ := kS a hs
      obtain ⟨hmn, har⟩ := of_sel hs
      rw [y1]
      refine iteF ?_
      refine ⟨_, rfl, _, rfl, x, _, rfl, by rw [← wkv_now]; exact DGet.k (k := Sum.inr "now") W.ob, _, _, rfl, rfl, _, rfl, if2 k1 fun c => ?_⟩
      refine ⟨_, rfl, x, _, rfl, by rw [← wkv_waits]; exact DGet.k (k := Sum.inr "waits") W.ob, _, rfl, wa, .ref t, rfl, by rw [← y1]; exact DGet.k (k := Sum.inl n) D.at_, ?_⟩
      refine ⟨_, rfl, t, _, _, _, rfl, rfl, SqT.of y2, at_of (j := 0) rfl rfl, _, rfl, _, rfl, t, _, _, _, rfl, rfl, SqT.of y2, at_of (j := 2) rfl rfl, (by show 3 ≤ sizeLine; decide), fun u hu' => ?_⟩
      have s2 := Same.new (o := .tup [.str a.name, .int due, optI a.step]) hu'
      have W2 := W.same s2
      have D2 := D.keep (s2 _ _ D.at_) fun a xs e => s2 _ _ e
      have hz := D2.size (fun n a h => W2.bd n a (of_sel h).1) (by omega)
      refine ⟨_, rfl, x, _, rfl, by rw [← wkv_waits]; exact DGet.k (k := Sum.inr "waits") W2.ob, _, rfl, wa, _, rfl, DPut.k (k := Sum.inl n) D2.at_ (small1000 hz), ?_⟩
      have D3 := D2.put (n := n) (a := { a with val := due }) (t := u) upd_same
      have e1 : setM (sel false m) n (some { a with val := due }) = sel false (setM m n (some { a with val := due })) := by
        rw [sel_set]
        show _ = setM _ _ (if a.rests = false then _ else _)
        rw [if_pos har]
      rw [e1] at D3
      refine k2 (by omega) _ (W2.setW D3 ?_ fun j b h => ?_) ((Same.ch s2).trans (Ch.upd (.inr (.inl rfl)) (Same.refl _)))
      · rw [sel_set]
        show setM _ _ (if a.rests = true then _ else _) = _
        rw [har, if_neg Bool.false_ne_true]
        refine setM_self ?_
        rw [sel_some hmn, har, if_neg Bool.false_ne_true]
      · by_cases e : j = n
        · rw [e]
          exact W2.bd n a hmn
        · rw [setM_ne e] at h
          exact W2.bd j b h
end
end L2.TK
set_option Elab.async false
set_option linter.all false
set_option maxRecDepth 100000
set_option maxHeartbeats 4000000
namespace L2.TK
open PySem TkM
section
variable {H H' : Hp} {x wa ra : Addr} {S l now many : Int} {m : Mp Str}
theorem WO.setR (W : WO H x wa ra S l now many m) {rs : List (Key × V)} {m' : Mp Str} (r : DA (upd H ra (.dK rs)) ra rs (sel true m')) (hw : sel false m' = sel false m) (hb : ∀ n a, m' n = some a → 0 ≤ n ∧ n < many) : WO (upd H ra (.dK rs)) x wa ra S l now many m' := by
  obtain ⟨ws, w⟩ := W.w
  obtain ⟨rs0, r0⟩ := W.r
  have tk := upd_tupK (o := .dK rs) r0.at_
  exact ⟨by rw [upd_ne W.n2]; exact W.ob, ⟨ws, by rw [hw]; exact w.keep (by rw [upd_ne W.n3]; exact w.at_) tk⟩, ⟨rs, r⟩, W.n1, W.n2, W.n3, hb⟩
theorem bd_del {n : Int} (W : WO H x wa ra S l now many m) : ∀ j b, setM m n none j = some b → 0 ≤ j ∧ j < many := fun j b h => by
  by_cases e : j = n
  · rw [e, setM_same] at h
    cases h
  · rw [setM_ne e] at h
    exact W.bd j b h
theorem bd_set {n : Int} {a : Al Str} (W : WO H x wa ra S l now many m) (hn : 0 ≤ n ∧ n < many) : ∀ j b, setM m n (some a) j = some b → 0 ≤ j ∧ j < many := fun j b h => by
  by_cases e : j = n
  · rw [e]
    exact hn
  · rw [setM_ne e] at h
    exact W.bd j b h
theorem sel_other {r : Bool} {n : Int} {a : Al Str} (h : m n = some a) (hr : a.rests ≠ r) : sel r m n = none := by
  rw [sel_some h, if_neg hr]
theorem WO.popW (W : WO H x wa ra S l now many m) {ws : List (Key × V)} {n : Int} (D : DA H wa ws (sel false m)) (ht : sel true m n = none) : WO (upd H wa (.dK (dropK ws (Sum.inl n)))) x wa ra S l now many (setM m n none) :=
  W.setW (by rw [sel_del]; exact D.drop n) (by rw [sel_del]; exact setM_self ht) (bd_del W)
theorem WO.popR (W : WO H x wa ra S l now many m) {rs : List (Key × V)} {n : Int} (D : DA H ra rs (sel true m)) (ht : sel false m n = none) : WO (upd H ra (.dK (dropK rs (Sum.inl n)))) x wa ra S l now many (setM m n none) :=
  W.setR (by rw [sel_del]; exact D.drop n) (by rw [sel_del]; exact setM_self ht) (bd_del W)
theorem WO.putW (W : WO H x wa ra S l now many m) {ws : List (Key × V)} {n : Int} {a : Al Str} {t : Addr} (D : DA H wa ws (sel false m)) (hm : m n = none) (hn : 0 ≤ n ∧ n < many) (ha : a.rests = false) (ht : H t = some (.tup [.str a.name, .int a.val, optI a.step])) :
    WO (upd H wa (.dK (putK ws (Sum.inl n) (.ref t)))) x wa ra S l now many (setM m n (some a)) :=
  W.setW (by rw [sel_set, if_pos ha]; exact D.put ht) (by rw [sel_set, if_neg (by rw [ha]; decide)]; exact setM_self (sel_none hm)) (bd_set W hn)
theorem WO.putR (W : WO H x wa ra S l now many m) {rs : List (Key × V)} {n : Int} {a : Al Str} {t : Addr} (D : DA H ra rs (sel true m)) (hm : m n = none) (hn : 0 ≤ n ∧ n < many) (ha : a.rests = true) (ht : H t = some (.tup [.str a.name, .int a.val, optI a.step])) :
    WO (upd H ra (.dK (putK rs (Sum.inl n) (.ref t)))) x wa ra S l now many (setM m n (some a)) :=
  W.setR (by rw [sel_set, if_pos ha]; exact D.put ht) (by rw [sel_set, if_neg (by rw [ha]; decide)]; exact setM_self (sel_none hm)) (bd_set W hn)
end
def spWRest : Sp := fun vs H Q _ => ∃ (x wa ra : Addr) (S l now many : Int) (m : Mp Str) (n : Int), vs = [.ref x, .int n] ∧ WO H x wa ra S l now many m ∧ many ≤ 900 ∧
  (sel false m n = none → Q (.str "there") H) ∧ ∀ a, sel false m n = some a → ∀ H', WO H' x wa ra S l now many (setM m n (some { a with rests := true, val := a.val - now })) → Ch (GG x wa ra) (GG x wa ra) H H' → Q .non H'
def spWOn : Sp := fun vs H Q _ => ∃ (x wa ra : Addr) (S l now many : Int) (m : Mp Str) (n : Int), vs = [.ref x, .int n] ∧ WO H x wa ra S l now many m ∧ many ≤ 900 ∧
  (sel true m n = none → Q (.str "there") H) ∧ ∀ a, sel true m n = some a → ∀ H', WO H' x wa ra S l now many (setM m n (some { a with rests := false, val := now + a.val })) → Ch (GG x wa ra) (GG x wa ra) H H' → Q .non H'
def spWBack : Sp := fun vs H Q _ => ∃ (x wa ra : Addr) (S l now many : Int) (m : Mp Str) (n : Int), vs = [.ref x, .int n] ∧ WO H x wa ra S l now many m ∧
  (m n = none → ∀ H', Same H H' → Q (.str "there") H') ∧ ∀ a, m n = some a → ∀ H', WO H' x wa ra S l now many (setM m n none) → Ch (GG x wa ra) (GG x wa ra) H H' → Q (.str a.name) H'
section
variable {P : Program} {w : World} {K : PySem.W.Frag} {mg : Str → Option Value} {base : Heap} {CW CA CB CT CBad CPast CNot : Addr}
theorem scWRest : FnScope ["_law_world", "_law_number", "_law_one"] ["_law_world", "_law_number"] (defScope s_law_rest) := ⟨rfl, rfl, rfl, by decide +kernel, rfl, by decide +kernel, by decide +kernel⟩
theorem ok_WRest {f : Addr} {fd : FuncData} (F : Fun K "_law_rest" "_law_rest" s_law_rest f fd) : FnOk P w K mg base CX0 1 f fd ["_law_world", "_law_number"] spWRest := by
  refine F.ok scWRest (fun vs H Q E h => ?_) (fun cdv A outer s H vs Q E hr h => ?_)
  · obtain ⟨x, wa, ra, S, l, now, many, m, n, rfl, _⟩ := h
    rfl
  · obtain ⟨x, wa, ra, S, l, now, many, m, n, rfl, W, hm, kN, kS⟩ := h
    have hu := hu_of hr
    refine ⟨_, pss_cons (ps_if (pt_cmp (pc_dnotin hu (pv 1) (pe_dget hu (pv 0) pe_str (fun _ _ => rfl)))) (pss_one (ps_ret pe_str)) pss_nil)
      (pss_cons (ps_set (i := 2) scWRest.nd rfl (Or.inl rfl) (pe_dpop1 (pe_dget hu (pv 0) pe_str (fun _ _ => rfl)) (pv 1) ⟨rfl, rfl, rfl, rfl⟩))
      (pss_cons (ps_dput hu (pe_dget hu (pv 0) pe_str (fun _ _ => rfl)) (pv 1) (pe_tup (pa_cons (pe_ix ix_tup (pv 2) pe_int (fun _ _ => rfl)) (pa_cons (pe_op op_sub (pe_ix ix_tup (pv 2) pe_int (fun _ _ => rfl)) (pe_dget hu (pv 0) pe_str (fun _ _ => rfl))) (pa_cons (pe_ix ix_tup (pv 2) pe_int (fun _ _ => rfl)) pa_nil)))) rfl)
      (pss_one (ps_ret pe_non)))), ?_⟩
    obtain ⟨ws, D⟩ := W.w
    refine ⟨_, rfl, _, rfl, x, _, rfl, by rw [← wkv_waits]; exact DGet.k (k := Sum.inr "waits") W.ob, wa, _, rfl, DGet.k (k := Sum.inl n) D.at_, _, rfl, ?_⟩
    cases hs : sel false m n with
    | none =>
      rw [D.no n hs]
      exact iteT (kN hs)
    | some a =>
      obtain ⟨t, y1, y2⟩ := D.yes n a hs
      obtain ⟨hmn, har⟩ := of_sel hs
      have hbd := W.bd n a hmn
      rw [y1]
      refine iteF ?_
      refine ⟨_, rfl, x, _, rfl, by rw [← wkv_waits]; exact DGet.k (k := Sum.inr "waits") W.ob, wa, rfl, .inl ⟨_, .inl D.at_⟩, _, rfl, _, Sum.inl n, _, D.at_, rfl, y1, ?_⟩
      have W1 := W.popW (n := n) D (sel_other hmn (by rw [har]; decide))
      have c1 : Ch (GG x wa ra) (GG x wa ra) H (upd H wa (.dK (dropK ws (Sum.inl n)))) := Ch.upd (.inr (.inl rfl)) (Same.refl _)
      have y2 := upd_tupK (o := .dK (dropK ws (Sum.inl n))) D.at_ _ _ y2
      generalize upd H wa (.dK (dropK ws (Sum.inl n))) = H1 at W1 c1 y2
      refine ⟨_, rfl, t, _, _, _, rfl, rfl, SqT.of y2, at_of (j := 0) rfl rfl, _, rfl, t, _, _, _, rfl, rfl, SqT.of y2, at_of (j := 1) rfl rfl, _, rfl, x, _, rfl, by rw [← wkv_now]; exact DGet.k (k := Sum.inr "now") W1.ob, _, _, rfl, rfl, _, rfl, t, _, _, _, rfl, rfl, SqT.of y2, at_of (j := 2) rfl rfl, (by show 3 ≤ sizeLine; decide), fun u hu' => ?_⟩
      have s2 := Same.new (o := .tup [.str a.name, .int (a.val - now), optI a.step]) hu'
      have W2 := W1.same s2
      obtain ⟨rs, D2⟩ := W2.r
      have hz := D2.size (fun n a h => W2.bd n a (of_sel h).1) (by omega)
      refine ⟨_, rfl, x, _, rfl, by rw [← wkv_rests]; exact DGet.k (k := Sum.inr "rests") W2.ob, _, rfl, ra, _, rfl, DPut.k (k := Sum.inl n) D2.at_ (small1000 hz), ?_⟩
      have W3 := W2.putR (a := { a with rests := true, val := a.val - now }) (t := u) D2 setM_same hbd rfl upd_same
      rw [setM_setM] at W3
      exact kS a hs _ W3 ((c1.trans (Same.ch s2)).trans (Ch.upd (.inr (.inr rfl)) (Same.refl _)))
theorem scWOn : FnScope ["_law_world", "_law_number", "_law_one"] ["_law_world", "_law_number"] (defScope s_law_on) := ⟨rfl, rfl, rfl, by decide +kernel, rfl, by decide +kernel, by decide +kernel⟩
theorem ok_WOn {f : Addr} {fd : FuncData} (F : Fun K "_law_on" "_law_on" s_law_on f fd) : FnOk P w K mg base CX0 1 f fd ["_law_world", "_law_number"] spWOn := by
  refine F.ok scWOn (fun vs H Q E h => ?_) (fun cdv A outer s H vs Q E hr h => ?_)
  · obtain ⟨x, wa, ra, S, l, now, many, m, n, rfl, _⟩ := h
    rfl
  · obtain ⟨x, wa, ra, S, l, now, many, m, n, rfl, W, hm, kN, kS⟩ := h
    have hu := hu_of hr
    refine ⟨_, pss_cons (ps_if (pt_cmp (pc_dnotin hu (pv 1) (pe_dget hu (pv 0) pe_str (fun _ _ => rfl)))) (pss_one (ps_ret pe_str)) pss_nil)
      (pss_cons (ps_set (i := 2) scWOn.nd rfl (Or.inl rfl) (pe_dpop1 (pe_dget hu (pv 0) pe_str (fun _ _ => rfl)) (pv 1) ⟨rfl, rfl, rfl, rfl⟩))
      (pss_cons (ps_dput hu (pe_dget hu (pv 0) pe_str (fun _ _ => rfl)) (pv 1) (pe_tup (pa_cons (pe_ix ix_tup (pv 2) pe_int (fun _ _ => rfl)) (pa_cons (pe_op op_add (pe_ix ix_tup (pv 2) pe_int (fun _ _ => rfl)) (pe_dget hu (pv 0) pe_str (fun _ _ => rfl))) (pa_cons (pe_ix ix_tup (pv 2) pe_int (fun _ _ => rfl)) pa_nil)))) rfl)
      (pss_one (ps_ret pe_non)))), ?_⟩
    obtain ⟨rs, D⟩ := W.r
    refine ⟨_, rfl, _, rfl, x, _, rfl, by rw [← wkv_rests]; exact DGet.k (k := Sum.inr "rests") W.ob, ra, _, rfl, DGet.k (k := Sum.inl n) D.at_, _, rfl, ?_⟩
    cases hs : sel true m n with
    | none =>
      rw [D.no n hs]
      exact iteT (kN hs)
    | some a =>
      obtain ⟨t, y1, y2⟩ := D.yes n a hs
      obtain ⟨hmn, har⟩ := of_sel hs
      have hbd := W.bd n a hmn
      rw [y1]
      refine iteF ?_
      refine ⟨_, rfl, x, _, rfl, by rw [← wkv_rests]; exact DGet.k (k := Sum.inr "rests") W.ob, ra, rfl, .inl ⟨_, .inl D.at_⟩, _, rfl, _, Sum.inl n, _, D.at_, rfl, y1, ?_⟩
      have W1 := W.popR (n := n) D (sel_other hmn (by rw [har]; decide))
      have c1 : Ch (GG x wa ra) (GG x wa ra) H (upd H ra (.dK (dropK rs (Sum.inl n)))) := Ch.upd (.inr (.inr rfl)) (Same.refl _)
      have y2 := upd_tupK (o := .dK (dropK rs (Sum.inl n))) D.at_ _ _ y2
      generalize upd H ra (.dK (dropK rs (Sum.inl n))) = H1 at W1 c1 y2
      refine ⟨_, rfl, t, _, _, _, rfl, rfl, SqT.of y2, at_of (j := 0) rfl rfl, _, rfl, t, _, _, _, rfl, rfl, SqT.of y2, at_of (j := 1) rfl rfl, _, rfl, x, _, rfl, by rw [← wkv_now]; exact DGet.k (k := Sum.inr "now") W1.ob, _, _, rfl, rfl, _, rfl, t, _, _, _, rfl, rfl, SqT.of y2, at_of (j := 2) rfl rfl, (by show 3 ≤ sizeLine; decide), fun u hu' => ?_⟩
      have s2 := Same.new (o := .tup [.str a.name, .int (a.val + now), optI a.step]) hu'
      have W2 := W1.same s2
      obtain ⟨ws, D2⟩ := W2.w
      have hz := D2.size (fun n a h => W2.bd n a (of_sel h).1) (by omega)
      refine ⟨_, rfl, x, _, rfl, by rw [← wkv_waits]; exact DGet.k (k := Sum.inr "waits") W2.ob, _, rfl, wa, _, rfl, DPut.k (k := Sum.inl n) D2.at_ (small1000 hz), ?_⟩
      have W3 := W2.putW (a := { a with rests := false, val := now + a.val }) (t := u) D2 setM_same hbd rfl (by rw [upd_same, Int.add_comm now])
      rw [setM_setM] at W3
      exact kS a hs _ W3 ((c1.trans (Same.ch s2)).trans (Ch.upd (.inr (.inl rfl)) (Same.refl _)))
theorem scWBack : FnScope ["_law_world", "_law_number", "_law_word"] ["_law_world", "_law_number"] (defScope s_law_back) := ⟨rfl, rfl, rfl, by decide +kernel, rfl, by decide +kernel, by decide +kernel⟩
theorem ok_WBack {f : Addr} {fd : FuncData} (F : Fun K "_law_back" "_law_back" s_law_back f fd) : FnOk P w K mg base CX0 1 f fd ["_law_world", "_law_number"] spWBack := by
  refine F.ok scWBack (fun vs H Q E h => ?_) (fun cdv A outer s H vs Q E hr h => ?_)
  · obtain ⟨x, wa, ra, S, l, now, many, m, n, rfl, _⟩ := h
    rfl
  · obtain ⟨x, wa, ra, S, l, now, many, m, n, rfl, W, kN, kS⟩ := h
    have hu := hu_of hr
    refine ⟨_, pss_cons (ps_for PassesOwn.never rfl (pi_tup (pe_tup (pa_cons pe_str (pa_cons pe_str pa_nil)))) (pg_name (i := 2) scWBack.nd rfl (Or.inl rfl))
        (pss_one (ps_if (pt_cmp (pc_din hu (pv 1) (pe_dget hu (pv 0) (pv 2) (fun _ _ => rfl)))) (pss_one (ps_ret (pe_ix ix_tup (pe_dpop1 (pe_dget hu (pv 0) (pv 2) (fun _ _ => rfl)) (pv 1) ⟨rfl, rfl, rfl, rfl⟩) pe_int (fun _ _ => rfl)))) pss_nil)))
      (pss_one (ps_ret pe_str)), ?_⟩
    refine ⟨(by show 2 ≤ sizeLine; decide), fun p hp => ?_⟩
    have s1 := Same.new (o := .tup [.str ("waits" : Str), .str ("rests" : Str)]) hp
    have ep : upd H p (.tup [.str ("waits" : Str), .str ("rests" : Str)]) p = some (.tup [.str ("waits" : Str), .str ("rests" : Str)]) := upd_same
    have W1 := W.same s1
    generalize upd H p (.tup [.str ("waits" : Str), .str ("rests" : Str)]) = H1 at s1 ep W1
    refine ⟨p, rfl, ⟨_, SqT.of ep⟩, for_tup (K := K) (a := p) (xs := [.str ("waits" : Str), .str ("rests" : Str)]) (fun i sg H' => H' = H1 ∧ (∃ v, sg = [some (.ref x), some (.int n), v]) ∧ (1 ≤ i → sel false m n = none) ∧ (2 ≤ i → sel true m n = none)) ⟨rfl, ⟨none, rfl⟩, fun h => absurd h (by decide), fun h => absurd h (by decide)⟩ (fun i sg H' _ h => by rw [h.1]; exact SqT.of ep) ?_ ?_⟩
    · rintro i y sg H' hy ⟨rfl, ⟨v, rfl⟩, h1, h2⟩
      have hi : i = 0 ∨ i = 1 := by
        have := (List.getElem?_eq_some_iff.mp hy).1
        simp only [List.length_cons, List.length_nil] at this
        omega
      rcases hi with rfl | rfl
      · cases hy
        obtain ⟨ws, D⟩ := W1.w
        refine ⟨_, rfl, _, rfl, _, rfl, x, _, rfl, by rw [← wkv_waits]; exact DGet.k (k := Sum.inr "waits") W1.ob, wa, _, rfl, DGet.k (k := Sum.inl n) D.at_, _, rfl, ?_⟩
        cases hs : sel false m n with
        | none =>
          rw [D.no n hs]
          exact iteF ⟨rfl, ⟨_, rfl⟩, fun _ => rfl, fun h => absurd h (by decide)⟩
        | some a =>
          obtain ⟨t, y1, y2⟩ := D.yes n a hs
          obtain ⟨hmn, har⟩ := of_sel hs
          rw [y1]
          refine iteT ?_
          refine ⟨_, rfl, _, rfl, x, _, rfl, by rw [← wkv_waits]; exact DGet.k (k := Sum.inr "waits") W1.ob, wa, rfl, .inl ⟨_, .inl D.at_⟩, _, rfl, _, Sum.inl n, _, D.at_, rfl, y1, ?_⟩
          have y2 := upd_tupK (o := .dK (dropK ws (Sum.inl n))) D.at_ _ _ y2
          refine ⟨t, _, _, _, rfl, rfl, SqT.of y2, at_of (j := 0) rfl rfl, ?_⟩
          exact kS a hmn _ (W1.popW (n := n) D (sel_other hmn (by rw [har]; decide))) ((Same.ch s1).trans (Ch.upd (.inr (.inl rfl)) (Same.refl _)))
      · cases hy
        have h1 := h1 (by decide)
        obtain ⟨rs, D⟩ := W1.r
        refine ⟨_, rfl, _, rfl, _, rfl, x, _, rfl, by rw [← wkv_rests]; exact DGet.k (k := Sum.inr "rests") W1.ob, ra, _, rfl, DGet.k (k := Sum.inl n) D.at_, _, rfl, ?_⟩
        cases hs : sel true m n with
        | none =>
          rw [D.no n hs]
          exact iteF ⟨rfl, ⟨_, rfl⟩, fun _ => h1, fun _ => rfl⟩
        | some a =>
          obtain ⟨t, y1, y2⟩ := D.yes n a hs
          obtain ⟨hmn, har⟩ := of_sel hs
          rw [y1]
          refine iteT ?_
          refine ⟨_, rfl, _, rfl, x, _, rfl, by rw [← wkv_rests]; exact DGet.k (k := Sum.inr "rests") W1.ob, ra, rfl, .inl ⟨_, .inl D.at_⟩, _, rfl, _, Sum.inl n, _, D.at_, rfl, y1, ?_⟩
          have y2 := upd_tupK (o := .dK (dropK rs (Sum.inl n))) D.at_ _ _ y2
          refine ⟨t, _, _, _, rfl, rfl, SqT.of y2, at_of (j := 0) rfl rfl, ?_⟩
          exact kS a hmn _ (W1.popR (n := n) D h1) ((Same.ch s1).trans (Ch.upd (.inr (.inr rfl)) (Same.refl _)))
    · rintro sg H' ⟨rfl, ⟨v, rfl⟩, h1, h2⟩
      have h1 := h1 (by decide)
      have h2 := h2 (by decide)
      refine kN ?_ _ s1
      cases e : m n with
      | none => rfl
      | some a =>
        cases q : a.rests with
        | true =>
          rw [sel_some e, if_pos q] at h2
          cases h2
        | false =>
          rw [sel_some e, if_pos q] at h1
          cases h1
end
end L2.TK
set_option Elab.async false
set_option linter.all false
set_option maxRecDepth 100000
set_option maxHeartbeats 8000000
namespace L2.TK
open PySem TkM
theorem small1000b {n : Nat} (h : n ≤ 100000) : n < sizeLine := Nat.lt_of_le_of_lt h (by decide)
def spWPass : Sp := fun vs H Q _ => ∃ (x wa ra : Addr) (S l now many : Int) (m : Mp Str) (t : Int), vs = [.ref x, .int t] ∧ WO H x wa ra S l now many m ∧ many ≤ 900 ∧ Stp m ∧
  (t < 0 → Q (.str "past") H) ∧ (0 ≤ t → Few3 m (now + t) ∧ ∀ (H' : Hp) (told : List (Tr Str)) (p : Addr), WO H' x wa ra S l (now + t) many (adv m (now + t)) → Told m (now + t) told → Ch (GG x wa ra) (GG x wa ra) H H' → H p = none → TL H' p told → Q (.ref p) H')
abbrev nmWP : List Str := ["_law_world", "_law_ticks_here", "_law_goal", "_law_told", "_law_number", "_law_soon", "_law_due", "_law_name", "_law_step"]
abbrev teS (K : PySem.W.Frag) : TE := tTup (tCons (tOp (rIxT K) (tDGet (tDGet (tVar 0) (tC (.str "waits"))) (tVar 4)) (tC (.int 1))) (tCons (tVar 4) tNil))
theorem WO.off {H : Hp} {x wa ra : Addr} {S l now many : Int} {m : Mp Str} (W : WO H x wa ra S l now many m) {D : Addr} {xs : List V} {o : HO} (hD : H D = some (.lst xs)) : WO (upd H D o) x wa ra S l now many m := by
  obtain ⟨ws, w⟩ := W.w
  obtain ⟨rs, r⟩ := W.r
  have tk := upd_tup (o := o) hD
  exact ⟨by rw [upd_ne (ne_of W.ob hD (by intro z; cases z))]; exact W.ob, ⟨ws, w.keep (by rw [upd_ne (ne_of w.at_ hD (by intro z; cases z))]; exact w.at_) tk⟩, ⟨rs, r.keep (by rw [upd_ne (ne_of r.at_ hD (by intro z; cases z))]; exact r.at_) tk⟩, W.n1, W.n2, W.n3, W.bd⟩
def passW (f0 : Addr) (H' : Hp) : Nat := match H' f0 with
  | some (.lst xs) => 100001 - xs.length
  | _ => 0
/-- [(world['waits'][n][1], n) for n in world['waits']] -/
theorem soon_run {K : PySem.W.Frag} {sg : St} {H : Hp} {x wa ra : Addr} {S l now many : Int} {m : Mp Str} {E : Ends} (W : WO H x wa ra S l now many m) (hm : many ≤ 900) (h0 : sg[0]? = some (some (.ref x))) (hlen : sg.length = 9)
    (k : ∀ (D : Addr) (H' : Hp) (ps : List (Int × Int)), H D = none → Same H H' → PL H' D ps → ps.length ≤ 1000 → (∀ p, p ∈ ps ↔ Wt m p) → E.nx (sg.set 5 (some (.ref D))) H') :
    tLock (tAsg (tLc (iKeys (tDGet (tVar 0) (tC (.str "waits")))) (gName 4) tYes (teS K) [4]) (gName 5)) E sg H := by
  show tLockE (tLc (iKeys (tDGet (tVar 0) (tC (.str "waits")))) (gName 4) tYes (teS K) [4]) sg H (fun v H' => E.nx (sg.set 5 (some v)) H')
  obtain ⟨ws, D0⟩ := W.w
  refine ⟨wa, _, D0.at_, trivial, fun od => ?_⟩
  have on : ∀ a o, a ≠ wa → H a = some o → upd H wa (.frz od (.dK ws)) a = some o := fun a o n e => by
    rw [upd_ne n]
    exact e
  have ew : upd H wa (.frz od (.dK ws)) wa = some (.frz od (.dK ws)) := upd_same
  have ex : upd H wa (.frz od (.dK ws)) x = some (.dK (wkv S l now many wa ra)) := on _ _ W.n1 W.ob
  have tk : ∀ a xs, H a = some (.tup xs) → upd H wa (.frz od (.dK ws)) a = some (.tup xs) := fun a xs e => on _ _ (ne_of e D0.at_ (by intro z; cases z)) e
  have hz := D0.size (fun n a h => W.bd n a (of_sel h).1) (by omega)
  have key : ∀ {i : Nat} {kk : Key} {v : V}, ws[i]? = some (kk, v) → ∃ (n : Int) (a : Al Str) (t : Addr), kk = Sum.inl n ∧ sel false m n = some a ∧ v = .ref t ∧ H t = some (.tup [.str a.name, .int a.val, optI a.step]) := fun {i kk v} h => by
    have hmem := List.mem_of_getElem? h
    obtain ⟨n, hn⟩ := D0.ks _ hmem
    have hn : kk = Sum.inl n := hn
    have hv := valV_mem D0.nd hmem
    rw [hn] at hv
    cases q : sel false m n with
    | none =>
      rw [D0.no n q] at hv
      cases hv
    | some a =>
      obtain ⟨t, e1, e2⟩ := D0.yes n a q
      rw [e1] at hv
      cases hv
      exact ⟨n, a, t, hn, q, rfl, e2⟩
  generalize hH : upd H wa (.frz od (.dK ws)) = H1 at ew ex tk on
  refine ⟨_, h0, x, _, rfl, by rw [← wkv_waits]; exact DGet.k (k := Sum.inr "waits") ex, wa, od, rfl, .inl ⟨ws, ew, fun D hD => ?_⟩⟩
  have nD : D ≠ wa := fun z => by
    rw [z, ew] at hD
    cases hD
  have hD0 : H D = none := by
    rw [← hH, upd_ne nD] at hD
    exact hD
  refine lc_it walk_keys (fun j H' => Same H1 H' ∧ ∃ ps : List (Int × Int), PL H' D ps ∧ ps.length ≤ j ∧ j ≤ 1000 ∧ (∀ p ∈ ps, Wt m p) ∧ ∀ (i : Nat) (n : Int) (v : V), i < j → ws[i]? = some (Sum.inl n, v) → ∃ d, (d, n) ∈ ps) ⟨Same.new hD, [], ⟨[], upd_same, .nil⟩, Nat.zero_le _, by decide, fun p h => (nomatch h), fun i _ _ h => absurd h (Nat.not_lt_zero i)⟩ (fun j H' _ h => h.1 _ _ ew) ?_ ?_
  · rintro j y H2 H3 hj ⟨s2, ps, ⟨ts, t1, t2⟩, hl, hj1, hw, hc⟩ ⟨rfl, kk, v, e, rfl⟩
    obtain ⟨n, a, t, rfl, hs, rfl, ht⟩ := key e
    obtain ⟨hmn, har⟩ := of_sel hs
    have hv := valV_mem D0.nd (List.mem_of_getElem? e)
    have tsl := TsAt.len t2
    have i0 : ∀ v : V, ((wipe sg [4]).set 4 (some v))[0]? = some (some (.ref x)) := fun v => by
      rcases sg with _ | ⟨a0, _ | ⟨a1, _ | ⟨a2, _ | ⟨a3, _ | ⟨a4, sg⟩⟩⟩⟩⟩
      all_goals first | (exfalso; simp at hlen; done) | exact h0
    have i4 : ∀ v : V, ((wipe sg [4]).set 4 (some v))[4]? = some (some v) := fun v => by
      rcases sg with _ | ⟨a0, _ | ⟨a1, _ | ⟨a2, _ | ⟨a3, _ | ⟨a4, sg⟩⟩⟩⟩⟩
      all_goals first | (exfalso; simp at hlen; done) | rfl
    refine ⟨?_, ?_⟩
    · rcases sg with _ | ⟨a0, _ | ⟨a1, _ | ⟨a2, _ | ⟨a3, _ | ⟨a4, sg⟩⟩⟩⟩⟩
      all_goals first | (exfalso; simp at hlen; done) | rfl
    refine ⟨_, i0 _, x, _, rfl, by rw [← wkv_waits]; exact DGet.k (k := Sum.inr "waits") (s2 _ _ ex), _, i4 _, wa, .ref t, rfl, .inl ⟨ws, Sum.inl n, .inr ⟨od, s2 _ _ ew⟩, rfl, hv.symm⟩, t, _, _, _, rfl, rfl, SqT.of (s2 _ _ (tk _ _ ht)), at_of (j := 1) rfl rfl, _, i4 _, (by show 2 ≤ sizeLine; decide), fun u hu' => ?_⟩
    have s3 := Same.new (o := .tup [.int a.val, .int n]) hu'
    have nu : D ≠ u := ne_of_none t1 hu'
    refine ⟨_, s3 _ _ t1, small1000 (by rw [List.length_map]; omega), fun b o e2 => ?_, ps ++ [(a.val, n)], ⟨ts ++ [u], by rw [upd_same, List.map_append]; rfl, ?_⟩, by rw [List.length_append, List.length_singleton]; omega, by omega, fun p hp => ?_, fun i n' v' hi hi2 => ?_⟩
    · rw [upd_ne (ne_of_none e2 hD)]
      exact s3 _ _ (s2 _ _ e2)
    · have kD : ∀ b xs, upd H3 u (.tup [.int a.val, .int n]) b = some (.tup xs) → upd (upd H3 u (.tup [.int a.val, .int n])) D (.lst (ts.map V.ref ++ [V.ref u])) b = some (.tup xs) := upd_tup (s3 _ _ t1)
      exact (t2.keep fun b xs e => kD _ _ (s3 _ _ e)).append (.cons (kD _ _ upd_same) .nil)
    · rcases List.mem_append.mp hp with h | h
      · exact hw p h
      · rw [List.mem_singleton.mp h]
        exact ⟨a, hmn, har, rfl⟩
    · by_cases c : i < j
      · obtain ⟨d, hd⟩ := hc i n' v' c hi2
        exact ⟨d, List.mem_append.mpr (.inl hd)⟩
      · have : i = j := by omega
        subst this
        rw [e] at hi2
        cases hi2
        exact ⟨a.val, List.mem_append.mpr (.inr List.mem_cons_self)⟩
  · rintro H2 ⟨s2, ps, ⟨ts, t1, t2⟩, hl, hj1, hw, hc⟩
    refine ⟨s2 _ _ ew, ?_⟩
    have tk2 := fun b xs (e : H2 b = some (.tup xs)) => show upd H2 wa (.dK ws) b = some (.tup xs) by
      rw [upd_ne (ne_of e (s2 _ _ ew) (by intro z; cases z))]
      exact e
    refine k D _ ps hD0 (fun b o e => ?_) ⟨ts, by rw [upd_ne nD]; exact t1, t2.keep tk2⟩ (by omega) fun p => ⟨hw p, fun ⟨a, a1, a2, a3⟩ => ?_⟩
    · by_cases z : b = wa
      · rw [z] at e ⊢
        rw [upd_same]
        rw [D0.at_] at e
        exact e
      · rw [upd_ne z]
        exact s2 _ _ (on _ _ z e)
    · have hs : sel false m p.2 = some a := by rw [sel_some a1, if_pos a2]
      obtain ⟨t, e1, _⟩ := D0.yes _ _ hs
      obtain ⟨i, hi⟩ := List.getElem?_of_mem (mem_valV e1)
      have hil := (List.getElem?_eq_some_iff.mp hi).1
      obtain ⟨d, hd⟩ := hc i p.2 _ hil hi
      obtain ⟨a', b1, _, b3⟩ := hw _ hd
      simp only at b1 b3
      rw [a1] at b1
      cases b1
      rw [show p = (d, p.2) from Prod.ext (by rw [← a3, b3]) rfl]
      exact hd
section
variable {P : Program} {w : World} {K : PySem.W.Frag} {mg : Str → Option Value} {base : Heap} {CW CA CB CT CBad CPast CNot : Addr}
theorem scWPass : FnScope nmWP ["_law_world", "_law_ticks_here"] (defScope s_law_pass) := ⟨rfl, rfl, rfl, by decide +kernel, rfl, by decide +kernel, by decide +kernel⟩
theorem ok_WPass {f : Addr} {fd : FuncData} (F : Fun K "_law_pass" "_law_pass" s_law_pass f fd) (T : Txt K mg CW CA CB CT CBad CPast CNot) : FnOk P w K mg base CX0 1 f fd ["_law_world", "_law_ticks_here"] spWPass := by
  refine F.ok scWPass (fun vs H Q E h => ?_) (fun cdv A outer s H vs Q E hr h => ?_)
  · obtain ⟨x, wa, ra, S, l, now, many, m, t, rfl, _⟩ := h
    rfl
  · obtain ⟨x, wa, ra, S, l, now, many, m, t, rfl, W, hm, hstp, kE, k⟩ := h
    have hu := hu_of hr
    have hu2 := room2 hr
    refine ⟨_, (pss_cons (ps_if (pt_cmpR op_lt (pv 1) pe_int (nomark _)) (pss_one (ps_ret pe_str)) pss_nil)
      (pss_cons (ps_set (i := 2) scWPass.nd rfl (Or.inl rfl) (pe_op op_add (pe_dget hu (pv 0) pe_str (fun _ _ => rfl)) (pv 1)))
      (pss_cons (ps_set (i := 3) scWPass.nd rfl (Or.inl rfl) (pe_lst pa_nil))
      (pss_cons (ps_lock (ps_setLc (i := 5) (own := [("_law_number", 4)]) (g := gName 4) (tt := tYes) (te := teS K) rfl scWPass.nd rfl rfl (sw_true rfl rfl rfl (by decide +kernel)) (pi_keys (pe_dget hu (pv 0) pe_str (fun _ _ => rfl)))
        (blkOk_by (own := [("_law_number", 4)]) (N := nmWP) (sc := defScope s_law_pass) (by decide +kernel)) (fun _ _ _ _ _ => pg_name (i := 4) scWPass.nd rfl (Or.inl rfl)) (fun _ _ _ _ _ => pts_nil)
        (fun _ _ _ _ _ => (pe_tup (pa_cons (pe_ix ix_tup (pe_dget hu (pe_dget hu (pv 0) pe_str (fun _ _ => rfl)) (pv 4) (fun _ _ => rfl)) pe_int (fun _ _ => rfl)) (pa_cons (pv 4) pa_nil))))))
      (C8.pss_cut (ps_while PassesOwn.never (PW.pt (pw_and (pt_truth (pv 5) (by intro _; rfl)) (pw_and1 (pt_cmpR op_le (pe_ix ix_tup (pe_callB (cr_minD (A := Int × Int) rfl hu2) (by rfl) T.min (by decide +kernel) (pa_cons (pv 5) pa_nil)) pe_int (fun _ _ => rfl)) (pv 2) (nomark _))))) (pss_cons (ps_asg (pe_callB (cr_minD (A := Int × Int) rfl hu2) (by rfl) T.min (by decide +kernel) (pa_cons (pv 5) pa_nil)) (pg_tup (by rfl) (pgs_cons (pg_name (i := 6) scWPass.nd rfl (Or.inl rfl)) (pgs_cons (pg_name (i := 4) scWPass.nd rfl (Or.inl rfl)) pgs_nil))))
      (pss_cons (ps_asg (pe_dget hu (pe_dget hu (pv 0) pe_str (fun _ _ => rfl)) (pv 4) (fun _ _ => rfl)) (pg_tup (by rfl) (pgs_cons (pg_name (i := 7) scWPass.nd rfl (Or.inl rfl)) (pgs_cons (pg_name (i := 6) scWPass.nd rfl (Or.inl rfl)) (pgs_cons (pg_name (i := 8) scWPass.nd rfl (Or.inl rfl)) pgs_nil)))))
      (pss_cons (ps_expr (pe_bm PySem.F.plainAttrs_list PySem.F.slot_list_append PySem.F.type_list_append mt_append (pv 3) (pa_cons (pe_tup (pa_cons (pv 6) (pa_cons (pv 4) (pa_cons (pv 7) pa_nil)))) pa_nil)))
      (pss_cons (ps_expr (pe_dpop1 (pe_dget hu (pv 0) pe_str (fun _ _ => rfl)) (pv 4) ⟨rfl, rfl, rfl, rfl⟩))
      (C8.pss_cut (ps_if (pt_cmp (pc_notN (pv 8))) (pss_one (ps_dput hu (pe_dget hu (pv 0) pe_str (fun _ _ => rfl)) (pv 4) (pe_tup (pa_cons (pv 7) (pa_cons (pe_op op_add (pv 6) (pv 8)) (pa_cons (pv 8) pa_nil)))) rfl)) pss_nil)
      (pss_one (ps_lock (ps_setLc (i := 5) (own := [("_law_number", 4)]) (g := gName 4) (tt := tYes) (te := teS K) rfl scWPass.nd rfl rfl (sw_true rfl rfl rfl (by decide +kernel)) (pi_keys (pe_dget hu (pv 0) pe_str (fun _ _ => rfl)))
        (blkOk_by (own := [("_law_number", 4)]) (N := nmWP) (sc := defScope s_law_pass) (by decide +kernel)) (fun _ _ _ _ _ => pg_name (i := 4) scWPass.nd rfl (Or.inl rfl)) (fun _ _ _ _ _ => pts_nil)
        (fun _ _ _ _ _ => (pe_tup (pa_cons (pe_ix ix_tup (pe_dget hu (pe_dget hu (pv 0) pe_str (fun _ _ => rfl)) (pv 4) (fun _ _ => rfl)) pe_int (fun _ _ => rfl)) (pa_cons (pv 4) pa_nil)))))))))))))
      (pss_cons (ps_dput hu (pv 0) pe_str (pv 2) rfl)
      (pss_one (ps_ret (pv 3))))))))), ?_⟩
    refine ⟨_, rfl, _, _, rfl, rfl, _, rfl, if2 kE fun c => ?_⟩
    obtain ⟨few3, k⟩ := k (by omega)
    refine ⟨_, rfl, x, _, rfl, by rw [← wkv_now]; exact DGet.k (k := Sum.inr "now") W.ob, _, rfl, _, _, rfl, rfl, ?_⟩
    refine ⟨Nat.zero_le _, fun f0 hf0 => ?_⟩
    have s0 := Same.new (o := .lst []) hf0
    refine soon_run (W.same s0) hm rfl rfl fun D H1 ps hD s1 pl psl mem => ?_
    obtain ⟨goal, eg⟩ : ∃ g, g = now + t := ⟨_, rfl⟩
    rw [← eg] at few3 k
    have ng : ∀ G : Hp → Prop, True := fun _ => trivial
    refine ⟨fun sg H' => ∃ (m' : Mp Str) (told : List (Tr Str)) (v4 v5 v6 v7 v8 : Option V), sg = [some (.ref x), some (.int t), some (.int goal), some (.ref f0), v4, v5, v6, v7, v8] ∧ WO H' x wa ra S l now many m' ∧ Part m m' told ∧ (∀ y ∈ told, y.1 ≤ goal) ∧
      Ch (GG x wa ra) (GG x wa ra) H H' ∧ TL H' f0 told ∧ ∀ p, Wt m' p → goal < p.1, ?_, ?_⟩
    · refine while_by (fun sg H' => ∃ (m' : Mp Str) (told : List (Tr Str)) (D : Addr) (ps : List (Int × Int)) (v4 v6 v7 v8 : Option V), sg = [some (.ref x), some (.int t), some (.int goal), some (.ref f0), v4, some (.ref D), v6, v7, v8] ∧ WO H' x wa ra S l now many m' ∧ Part m m' told ∧ (∀ y ∈ told, y.1 ≤ goal) ∧
        Ch (GG x wa ra) (GG x wa ra) H H' ∧ TL H' f0 told ∧ PL H' D ps ∧ ps.length ≤ 1000 ∧ ∀ p, p ∈ ps ↔ Wt m' p) (fun _ H' => passW f0 H') ?_ ?_ ?_
      · exact ⟨m, [], D, ps, none, none, none, none, by subst eg; rfl, (W.same s0).same s1, Part.start hstp, fun y h => (nomatch h), Same.ch (s0.trans s1), ⟨[], s1 _ _ upd_same, .nil⟩, pl, psl, mem⟩
      · rintro sg H3 ⟨m3, told, D, ps, v4, v6, v7, v8, rfl, W3, P3, tl3, C3, ⟨fts, ft1, ft2⟩, ⟨ts, t1, t2⟩, psl, mem⟩
        refine ⟨_, rfl, !(ts.map V.ref).isEmpty, .inl ⟨_, SqL.of t1, rfl⟩, ?_⟩
        cases hps : ps with
        | nil =>
          subst hps
          cases t2
          exact iteF ⟨m3, told, _, _, _, _, _, rfl, W3, P3, tl3, C3, ⟨fts, ft1, ft2⟩, fun p hp => by
            have := (mem p).mpr hp
            cases this⟩
        | cons p0 ps0 =>
          subst hps
          have ne : (!(ts.map V.ref).isEmpty) = true := by
            cases t2 with
            | cons h t => rfl
          refine ifB ne ?_
          refine ⟨_, rfl, D, _, p0, ps0, rfl, SqL.of t1, t2.hd, fun i v hi hm' => ?_⟩
          obtain ⟨tt, rfl, htt⟩ := min_at t2 hi hm'
          refine ⟨tt, _, _, _, rfl, rfl, SqT.of htt, at_of (j := 0) rfl rfl, _, rfl, _, _, rfl, rfl, _, rfl, ?_⟩
          obtain ⟨mm1, mm2⟩ := min_fold ps0 p0
          obtain ⟨⟨d, n⟩, emin⟩ : ∃ q, q = PySem.W.minOf p0 ps0 := ⟨_, rfl⟩
          rw [← emin] at mm1 mm2
          have hwt := (mem _).mp mm1
          obtain ⟨a, a1, a2, a3⟩ := hwt
          simp only at a1 a3
          by_cases hle : (PySem.W.minOf p0 ps0).1 ≤ goal
          rotate_left
          · refine ifF hle ⟨m3, told, _, _, _, _, _, rfl, W3, P3, tl3, C3, ⟨fts, ft1, ft2⟩, fun p hp => ?_⟩
            have h1 := mm2 p ((mem p).mpr hp)
            rw [← emin] at hle
            simp only at hle h1
            omega
          refine ifT hle ?_
          rw [← emin] at hle
          have hle : d ≤ goal := hle
          refine ⟨_, rfl, D, _, p0, ps0, rfl, SqL.of t1, t2.hd, fun i v hi hm' => ?_⟩
          obtain ⟨tt, rfl, htt⟩ := min_at t2 hi hm'
          rw [← emin] at htt
          refine ⟨tt, _, rfl, SqT.of htt, rfl, _, _, rfl, _, _, rfl, rfl, ?_⟩
          obtain ⟨ws, D3⟩ := W3.w
          have hs : sel false m3 n = some a := by rw [sel_some a1, if_pos a2]
          obtain ⟨u, y1, y2⟩ := D3.yes n a hs
          refine ⟨_, rfl, x, _, rfl, by rw [← wkv_waits]; exact DGet.k (k := Sum.inr "waits") W3.ob, _, rfl, wa, .ref u, rfl, by rw [← y1]; exact DGet.k (k := Sum.inl n) D3.at_, ?_⟩
          refine ⟨u, _, rfl, SqT.of y2, rfl, _, _, rfl, _, _, rfl, _, _, rfl, rfl, ?_⟩
          have P4 := P3.ring a1 a2 fun q hq => ?_
          rotate_left
          · have h1 := mm2 q ((mem q).mpr hq)
            simp only at h1
            unfold lt2
            by_cases c1 : q.1 = d
            · by_cases c2 : q.2 = n
              · exact .inl (Prod.ext (by rw [a3]; exact c1) c2)
              · right; right
                refine ⟨by rw [a3]; exact c1.symm, by omega⟩
            · right; left
              omega
          have lenF := TsAt3.len ft2
          have bound : (told ++ [(a.val, n, a.name)]).length ≤ 100000 := few3 _ (told_nodup P4.srt) fun y hy => ⟨(P4.all y).mpr (.inl hy), by
            rcases List.mem_append.mp hy with h | h
            · exact tl3 y h
            · rw [List.mem_singleton.mp h]
              show a.val ≤ goal
              omega⟩
          rw [List.length_append, List.length_singleton] at bound
          refine ⟨_, rfl, .inl ⟨rfl, _, SqL.of ft1⟩, _, rfl, _, rfl, _, rfl, (by show 3 ≤ sizeLine; decide), fun u4 hu4 => ?_⟩
          have s4 := Same.new (o := .tup [.int a.val, .int n, .str a.name]) hu4
          refine ⟨f0, _, _, rfl, rfl, s4 _ _ ft1, small1000b (by rw [List.length_map]; omega), ?_⟩
          have W4 := (W3.same s4).off (o := .lst (fts.map V.ref ++ [V.ref u4])) (s4 _ _ ft1)
          have C4 := chB (o := .lst (fts.map V.ref ++ [V.ref u4])) (C3.trans (Same.ch s4)) (s4 _ _ ft1) hf0
          have kf := upd_tup (o := .lst (fts.map V.ref ++ [V.ref u4])) (s4 _ _ ft1)
          have TL4 : TL (upd (upd H3 u4 (.tup [.int a.val, .int n, .str a.name])) f0 (.lst (fts.map V.ref ++ [V.ref u4]))) f0 (told ++ [(a.val, n, a.name)]) := ⟨fts ++ [u4], by rw [upd_same, List.map_append]; rfl, TsAt3.append ((ft2.keep fun b xs e => s4 _ _ e).keep kf) (.cons (kf _ _ upd_same) .nil)⟩
          have y24 := kf _ _ (s4 _ _ y2)
          generalize upd (upd H3 u4 (.tup [.int a.val, .int n, .str a.name])) f0 (.lst (fts.map V.ref ++ [V.ref u4])) = H4 at W4 C4 TL4 y24
          clear s4 kf
          obtain ⟨ws4, D4⟩ := W4.w
          obtain ⟨u', z1, z2⟩ := D4.yes n a hs
          refine ⟨_, rfl, x, _, rfl, by rw [← wkv_waits]; exact DGet.k (k := Sum.inr "waits") W4.ob, wa, rfl, .inl ⟨_, .inl D4.at_⟩, _, rfl, _, Sum.inl n, _, D4.at_, rfl, z1, ?_⟩
          have hbd := W4.bd n a a1
          have W5 := W4.popW (n := n) D4 (sel_other a1 (by rw [a2]; decide))
          have c5 : Ch (GG x wa ra) (GG x wa ra) H4 (upd H4 wa (.dK (dropK ws4 (Sum.inl n)))) := Ch.upd (.inr (.inl rfl)) (Same.refl _)
          have tk5 := upd_tupK (o := .dK (dropK ws4 (Sum.inl n))) D4.at_
          have TL5 : TL (upd H4 wa (.dK (dropK ws4 (Sum.inl n)))) f0 (told ++ [(a.val, n, a.name)]) := by
            obtain ⟨q1, q2, q3⟩ := TL4
            exact ⟨q1, by rw [upd_ne (ne_of q2 D4.at_ (by intro z; cases z))]; exact q2, q3.keep tk5⟩
          generalize upd H4 wa (.dK (dropK ws4 (Sum.inl n))) = H5 at W5 c5 TL5
          refine ⟨fun sg' H' => ∃ v4 v5 v6 v7 v8, sg' = [some (.ref x), some (.int t), some (.int goal), some (.ref f0), v4, v5, v6, v7, v8] ∧ WO H' x wa ra S l now many (setM m3 n (After a)) ∧ Ch (GG x wa ra) (GG x wa ra) H4 H' ∧ TL H' f0 (told ++ [(a.val, n, a.name)]), ?_, ?_⟩
          · refine ⟨_, rfl, _, rfl, ?_⟩
            cases es : a.step with
            | none =>
              refine iteF ⟨_, _, _, _, _, rfl, ?_, c5, TL5⟩
              rw [show After a = none by unfold After; rw [es]]
              exact W5
            | some sp =>
              refine iteT ?_
              refine ⟨_, rfl, _, rfl, _, rfl, _, _, rfl, rfl, _, rfl, (by show 3 ≤ sizeLine; decide), fun u6 hu6 => ?_⟩
              have s6 := Same.new (o := .tup [.str a.name, .int (a.val + sp), .int sp]) hu6
              have W6 := W5.same s6
              obtain ⟨ws6, D6⟩ := W6.w
              have hz := D6.size (fun n a h => W6.bd n a (of_sel h).1) (by omega)
              refine ⟨_, rfl, x, _, rfl, by rw [← wkv_waits]; exact DGet.k (k := Sum.inr "waits") W6.ob, _, rfl, wa, _, rfl, DPut.k (k := Sum.inl n) D6.at_ (small1000 hz), ?_⟩
              have W7 := W6.putW (a := { a with val := a.val + sp }) (t := u6) D6 setM_same hbd a2 (by rw [upd_same]; simp only [es]; rfl)
              rw [setM_setM] at W7
              have tk7 := upd_tupK (o := .dK (putK ws6 (Sum.inl n) (.ref u6))) D6.at_
              refine ⟨_, _, _, _, _, rfl, ?_, (c5.trans (Same.ch s6)).trans (Ch.upd (.inr (.inl rfl)) (Same.refl _)), ?_⟩
              · rw [show After a = some { a with val := a.val + sp } by unfold After; rw [es]]
                exact W7
              · obtain ⟨q1, q2, q3⟩ := TL5
                exact ⟨q1, by rw [upd_ne (ne_of (s6 _ _ q2) D6.at_ (by intro z; cases z))]; exact s6 _ _ q2, (q3.keep fun b xs e => s6 _ _ e).keep tk7⟩
          · rintro sg' H8 ⟨w4, w5, w6, w7, w8, rfl, W8, C8', TL8⟩
            refine soon_run W8 hm rfl rfl fun D9 H9 ps9 hD9 s9 pl9 psl9 mem9 => ?_
            obtain ⟨q1, q2, q3⟩ := TL8
            have TL9 : TL H9 f0 (told ++ [(a.val, n, a.name)]) := ⟨q1, s9 _ _ q2, q3.keep fun b xs e => s9 _ _ e⟩
            refine ⟨⟨_, told ++ [(a.val, n, a.name)], D9, ps9, _, _, _, _, rfl, W8.same s9, P4, fun y hy => ?_, (C4.trans C8').trans (Same.ch s9), TL9, pl9, psl9, mem9⟩, ?_⟩
            · rcases List.mem_append.mp hy with h | h
              · exact tl3 y h
              · rw [List.mem_singleton.mp h]
                show a.val ≤ goal
                omega
            · have ql := TsAt3.len q3
              rw [List.length_append, List.length_singleton] at ql
              show passW f0 H9 < passW f0 H3
              unfold passW
              rw [s9 _ _ q2, ft1]
              simp only [List.length_map]
              omega
      · rintro sg H3 Q1 Q2 hq ⟨v, hv, b, hb, q⟩
        refine ⟨v, hv, b, hb, ?_⟩
        cases b with
        | false => exact iteF (hq _ _ (by simpa using q))
        | true =>
          have q : tTest (tOp (rI0 fun i j => V.bl (decide (i ≤ j))) (tOp (rIxT K) (tCB (rMinD (Int × Int) K) (tCons (tVar 5) tNil)) (tC (.int 0))) (tVar 2)) sg H3 Q1 := q
          obtain ⟨v1, h1, a, vs, y, ys, e1, e2, e3, q⟩ := q
          refine iteT ⟨v1, h1, a, vs, y, ys, e1, e2, e3, fun i v hi hm => ?_⟩
          obtain ⟨b1, b2, b3, b4, g1, g2, g3, g4, u2, h2, i', j', e5, e6, k', e7, q⟩ := q i v hi hm
          exact ⟨b1, b2, b3, b4, g1, g2, g3, g4, u2, h2, i', j', e5, e6, k', e7, hq _ _ q⟩
    · rintro sg H3 ⟨m3, told, v4, v5, v6, v7, v8, rfl, W3, P3, tl3, C3, TL3, done⟩
      obtain ⟨T3, em⟩ := P3.done done tl3
      refine ⟨_, rfl, _, rfl, x, _, rfl, DPut.k (k := Sum.inr "now") W3.ob (small1000 (by show 6 ≤ 1000; decide)), ?_⟩
      rw [wkv_putNow]
      have W4 := W3.setX (now' := goal) (many' := many) (Int.le_refl _)
      rw [em] at W4
      obtain ⟨q1, q2, q3⟩ := TL3
      have tk := upd_tupK (o := .dK (wkv S l goal many wa ra)) W3.ob
      refine ⟨_, rfl, k _ told f0 W4 T3 (C3.trans (Ch.upd (.inl rfl) (Same.refl _))) hf0 ⟨q1, ?_, q3.keep tk⟩⟩
      rw [upd_ne (ne_of q2 W3.ob (by intro z; cases z))]
      exact q2
end
end L2.TK
set_option Elab.async false
set_option linter.all false
set_option maxRecDepth 100000
set_option maxHeartbeats 8000000
namespace L2.TK
open PySem TkM
inductive Deed where
  | set (due : Int) (st : Option Int) (nm : Str)
  | pass (t : Int)
  | move (n due : Int)
  | back (n due : Int)
  | rest (n due : Int)
  | on (n due : Int)
def deedV : Deed → List V
  | .set due st nm => [.str "set", .int due, optI st, .str nm]
  | .pass t => [.str "pass", .int t, .non, .str ""]
  | .move n due => [.str "move", .int n, .int due, .str ""]
  | .back n due => [.str "back", .int n, .int due, .str ""]
  | .rest n due => [.str "rest", .int n, .int due, .str ""]
  | .on n due => [.str "on", .int n, .int due, .str ""]
inductive Out where
  | non
  | int (n : Int)
  | str (s : Str)
  | told (T : List (Tr Str))
def Rep (H : Hp) : V → Out → Prop
  | v, .non => v = .non
  | v, .int n => v = .int n
  | v, .str s => v = .str s
  | v, .told T => ∃ p, v = .ref p ∧ TL H p T
inductive Does (now many : Int) (m : Mp Str) : Deed → Out → Int → Int → Mp Str → Prop where
  | setPast {due st nm} (h : due ≤ now ∨ ∃ s, st = some s ∧ s < 1) : Does now many m (.set due st nm) (.str "past") now many m
  | setOk {due st nm} (h : now < due) (hs : ∀ s, st = some s → 1 ≤ s) : Does now many m (.set due st nm) (.int many) now (many + 1) (setM m many (some ⟨nm, st, false, due⟩))
  | passPast {t} (h : t < 0) : Does now many m (.pass t) (.str "past") now many m
  | passOk {t T} (h : 0 ≤ t) (ht : Told m (now + t) T) : Does now many m (.pass t) (.told T) (now + t) many (adv m (now + t))
  | moveNo {n due} (h : sel false m n = none) : Does now many m (.move n due) (.str "there") now many m
  | movePast {n due a} (h : sel false m n = some a) (hd : due ≤ now) : Does now many m (.move n due) (.str "past") now many m
  | moveOk {n due a} (h : sel false m n = some a) (hd : now < due) : Does now many m (.move n due) .non now many (setM m n (some { a with val := due }))
  | backNo {n due} (h : m n = none) : Does now many m (.back n due) (.str "there") now many m
  | backOk {n due a} (h : m n = some a) : Does now many m (.back n due) (.str a.name) now many (setM m n none)
  | restNo {n due} (h : sel false m n = none) : Does now many m (.rest n due) (.str "there") now many m
  | restOk {n due a} (h : sel false m n = some a) : Does now many m (.rest n due) .non now many (setM m n (some { a with rests := true, val := a.val - now }))
  | onNo {n due} (h : sel true m n = none) : Does now many m (.on n due) (.str "there") now many m
  | onOk {n due a} (h : sel true m n = some a) : Does now many m (.on n due) .non now many (setM m n (some { a with rests := false, val := now + a.val }))
theorem Does.det {now many : Int} {m : Mp Str} {d : Deed} {o o' : Out} {n1 n2 k1 k2 : Int} {m1 m2 : Mp Str} (h : Does now many m d o n1 k1 m1) (h' : Does now many m d o' n2 k2 m2) : o = o' ∧ n1 = n2 ∧ k1 = k2 ∧ m1 = m2 := by
  cases h with
  | setPast h =>
    cases h' with
    | setPast _ => exact ⟨rfl, rfl, rfl, rfl⟩
    | setOk h2 h3 =>
      exfalso
      rcases h with h | ⟨s, e, h⟩
      · omega
      · have := h3 s e
        omega
  | setOk h1 h3 =>
    cases h' with
    | setPast h =>
      exfalso
      rcases h with h | ⟨s, e, h⟩
      · omega
      · have := h3 s e
        omega
    | setOk _ _ => exact ⟨rfl, rfl, rfl, rfl⟩
  | passPast h =>
    cases h' with
    | passPast _ => exact ⟨rfl, rfl, rfl, rfl⟩
    | passOk h2 _ => omega
  | passOk h ht =>
    cases h' with
    | passPast _ => omega
    | passOk h2 ht2 => exact ⟨by rw [ht.uniq ht2], rfl, rfl, rfl⟩
  | moveNo h =>
    cases h' with
    | moveNo _ => exact ⟨rfl, rfl, rfl, rfl⟩
    | movePast h2 _ => rw [h] at h2; cases h2
    | moveOk h2 _ => rw [h] at h2; cases h2
  | movePast h hd =>
    cases h' with
    | moveNo h2 => rw [h] at h2; cases h2
    | movePast _ _ => exact ⟨rfl, rfl, rfl, rfl⟩
    | moveOk _ _ => omega
  | moveOk h hd =>
    cases h' with
    | moveNo h2 => rw [h] at h2; cases h2
    | movePast _ _ => omega
    | moveOk h2 _ => rw [h] at h2; cases h2; exact ⟨rfl, rfl, rfl, rfl⟩
  | backNo h =>
    cases h' with
    | backNo _ => exact ⟨rfl, rfl, rfl, rfl⟩
    | backOk h2 => rw [h] at h2; cases h2
  | backOk h =>
    cases h' with
    | backNo h2 => rw [h] at h2; cases h2
    | backOk h2 => rw [h] at h2; cases h2; exact ⟨rfl, rfl, rfl, rfl⟩
  | restNo h =>
    cases h' with
    | restNo _ => exact ⟨rfl, rfl, rfl, rfl⟩
    | restOk h2 => rw [h] at h2; cases h2
  | restOk h =>
    cases h' with
    | restNo h2 => rw [h] at h2; cases h2
    | restOk h2 => rw [h] at h2; cases h2; exact ⟨rfl, rfl, rfl, rfl⟩
  | onNo h =>
    cases h' with
    | onNo _ => exact ⟨rfl, rfl, rfl, rfl⟩
    | onOk h2 => rw [h] at h2; cases h2
  | onOk h =>
    cases h' with
    | onNo h2 => rw [h] at h2; cases h2
    | onOk h2 => rw [h] at h2; cases h2; exact ⟨rfl, rfl, rfl, rfl⟩
def spDone : Sp := fun vs H Q _ => ∃ (x wa ra p : Addr) (S l now many : Int) (m : Mp Str) (d : Deed), vs = [.ref x, .ref p] ∧ H p = some (.tup (deedV d)) ∧ WO H x wa ra S l now many m ∧ 0 ≤ many ∧ many ≤ 900 ∧ Stp m ∧ (∀ t, d = .pass t → 0 ≤ t → Few3 m (now + t)) ∧
  ∀ (o : Out) (now' many' : Int) (m' : Mp Str) (H' : Hp) (v : V), Does now many m d o now' many' m' → WO H' x wa ra S l now' many' m' → Ch (GG x wa ra) (GG x wa ra) H H' → Rep H' v o → Q v H'
section
variable {P : Program} {w : World} {K : PySem.W.Frag} {mg : Str → Option Value} {base : Heap} {CW CA CB CT CBad CPast CNot : Addr}
theorem scDone : FnScope ["_law_world", "_law_deed_here"] ["_law_world", "_law_deed_here"] (defScope s_law_done) := ⟨rfl, rfl, rfl, by decide +kernel, rfl, by decide +kernel, by decide +kernel⟩
theorem ok_Done {f : Addr} {fd : FuncData} (F : Fun K "_law_done" "_law_done" s_law_done f fd) (GS : GFn P w K mg base CX0 1 "_law_set" ["_law_world", "_law_name", "_law_due", "_law_step"] spWSet) (GP : GFn P w K mg base CX0 1 "_law_pass" ["_law_world", "_law_ticks_here"] spWPass)
    (GM : GFn P w K mg base CX0 1 "_law_move" ["_law_world", "_law_number", "_law_due"] spWMove) (GB : GFn P w K mg base CX0 1 "_law_back" ["_law_world", "_law_number"] spWBack) (GR : GFn P w K mg base CX0 1 "_law_rest" ["_law_world", "_law_number"] spWRest)
    (GO : GFn P w K mg base CX0 1 "_law_on" ["_law_world", "_law_number"] spWOn) : FnOk P w K mg base CX0 2 f fd ["_law_world", "_law_deed_here"] spDone := by
  obtain ⟨fS, fdS, gS, kS, bS, GS⟩ := GS
  obtain ⟨fP, fdP, gP, kP, bP, GP⟩ := GP
  obtain ⟨fM, fdM, gM, kM, bM, GM⟩ := GM
  obtain ⟨fB, fdB, gB, kB, bB, GB⟩ := GB
  obtain ⟨fR, fdR, gR, kR, bR, GR⟩ := GR
  obtain ⟨fO, fdO, gO, kO, bO, GO⟩ := GO
  refine F.ok scDone (fun vs H Q E h => ?_) (fun cdv A outer s H vs Q E hr h => ?_)
  · obtain ⟨x, wa, ra, p, S, l, now, many, m, d, rfl, _⟩ := h
    rfl
  · obtain ⟨x, wa, ra, p, S, l, now, many, m, d, rfl, hp, W, hm0, hm, hstp, few, k⟩ := h
    have hr1 : Room 1 _ := hr
    refine ⟨_, (pss_cons (ps_if (pt_cmpR op_eq (pe_ix ix_tup (pv 1) pe_int (fun _ _ => rfl)) pe_str (nomark _)) (pss_one (ps_ret (pe_call GS hr1 rfl gS kS bS .nil pass0 (pa_cons (pv 0) (pa_cons (pe_ix ix_tup (pv 1) pe_int (fun _ _ => rfl)) (pa_cons (pe_ix ix_tup (pv 1) pe_int (fun _ _ => rfl)) (pa_cons (pe_ix ix_tup (pv 1) pe_int (fun _ _ => rfl)) pa_nil))))))) pss_nil)
      (pss_cons (ps_if (pt_cmpR op_eq (pe_ix ix_tup (pv 1) pe_int (fun _ _ => rfl)) pe_str (nomark _)) (pss_one (ps_ret (pe_call GP hr1 rfl gP kP bP .nil pass0 (pa_cons (pv 0) (pa_cons (pe_ix ix_tup (pv 1) pe_int (fun _ _ => rfl)) pa_nil))))) pss_nil)
      (pss_cons (ps_if (pt_cmpR op_eq (pe_ix ix_tup (pv 1) pe_int (fun _ _ => rfl)) pe_str (nomark _)) (pss_one (ps_ret (pe_call GM hr1 rfl gM kM bM .nil pass0 (pa_cons (pv 0) (pa_cons (pe_ix ix_tup (pv 1) pe_int (fun _ _ => rfl)) (pa_cons (pe_ix ix_tup (pv 1) pe_int (fun _ _ => rfl)) pa_nil)))))) pss_nil)
      (pss_cons (ps_if (pt_cmpR op_eq (pe_ix ix_tup (pv 1) pe_int (fun _ _ => rfl)) pe_str (nomark _)) (pss_one (ps_ret (pe_call GB hr1 rfl gB kB bB .nil pass0 (pa_cons (pv 0) (pa_cons (pe_ix ix_tup (pv 1) pe_int (fun _ _ => rfl)) pa_nil))))) pss_nil)
      (pss_cons (ps_if (pt_cmpR op_eq (pe_ix ix_tup (pv 1) pe_int (fun _ _ => rfl)) pe_str (nomark _)) (pss_one (ps_ret (pe_call GR hr1 rfl gR kR bR .nil pass0 (pa_cons (pv 0) (pa_cons (pe_ix ix_tup (pv 1) pe_int (fun _ _ => rfl)) pa_nil))))) pss_nil)
      (pss_one (ps_ret (pe_call GO hr1 rfl gO kO bO .nil pass0 (pa_cons (pv 0) (pa_cons (pe_ix ix_tup (pv 1) pe_int (fun _ _ => rfl)) pa_nil)))))))))), ?_⟩
    have it0 : ∀ s : Str, ∀ v1 v2 v3 : V, deedV d = [.str s, v1, v2, v3] → ∀ (q : Str) (A B : Hp → Prop), (s = q → A H) → (s ≠ q → B H) →
        tTest (tOp rEq (tOp (rIxT K) (tVar 1) (tC (.int 0))) (tC (.str q))) [some (.ref x), some (.ref p)] H (fun b H' => if b = true then A H' else B H') := fun s v1 v2 v3 e q A B h1 h2 =>
      ⟨_, rfl, p, _, _, _, rfl, rfl, SqT.of hp, at_of (j := 0) rfl (by rw [e]; rfl), rfl, _, rfl, by
        by_cases z : s = q
        · exact ifT (by rw [z]) (h1 z)
        · exact ifF (fun y => z (V.str.inj y)) (h2 z)⟩
    cases d with
    | set due st nm =>
      refine it0 _ _ _ _ rfl _ _ _ (fun _ => ?_) (fun h => absurd rfl h)
      refine ⟨_, rfl, _, rfl, p, _, _, _, rfl, rfl, SqT.of hp, at_of (j := 3) rfl rfl, _, rfl, p, _, _, _, rfl, rfl, SqT.of hp, at_of (j := 1) rfl rfl, _, rfl, p, _, _, _, rfl, rfl, SqT.of hp, at_of (j := 2) rfl rfl, ?_⟩
      refine ⟨x, wa, ra, S, l, now, many, m, nm, due, st, rfl, W, hm0, hm, ?_, fun h => k _ _ _ _ _ _ (.setPast h) W Ch.refl rfl, fun h1 h2 H' W' C' => k _ _ _ _ _ _ (.setOk h1 h2) W' C' rfl⟩
      cases e : m many with
      | none => rfl
      | some a =>
        have := W.bd _ _ e
        omega
    | pass t =>
      refine it0 _ _ _ _ rfl _ _ _ (fun h => absurd h (by decide +kernel)) (fun _ => ?_)
      refine it0 _ _ _ _ rfl _ _ _ (fun _ => ?_) (fun h => absurd rfl h)
      refine ⟨_, rfl, _, rfl, p, _, _, _, rfl, rfl, SqT.of hp, at_of (j := 1) rfl rfl, ?_⟩
      exact ⟨x, wa, ra, S, l, now, many, m, t, rfl, W, hm, hstp, fun h => k _ _ _ _ _ _ (.passPast h) W Ch.refl rfl, fun h => ⟨few t rfl h, fun H' T q W' T' C' _ tl => k _ _ _ _ _ _ (.passOk h T') W' C' ⟨q, rfl, tl⟩⟩⟩
    | move n due =>
      refine it0 _ _ _ _ rfl _ _ _ (fun h => absurd h (by decide +kernel)) (fun _ => ?_)
      refine it0 _ _ _ _ rfl _ _ _ (fun h => absurd h (by decide +kernel)) (fun _ => ?_)
      refine it0 _ _ _ _ rfl _ _ _ (fun _ => ?_) (fun h => absurd rfl h)
      refine ⟨_, rfl, _, rfl, p, _, _, _, rfl, rfl, SqT.of hp, at_of (j := 1) rfl rfl, _, rfl, p, _, _, _, rfl, rfl, SqT.of hp, at_of (j := 2) rfl rfl, ?_⟩
      exact ⟨x, wa, ra, S, l, now, many, m, n, due, rfl, W, hm, fun h => k _ _ _ _ _ _ (.moveNo h) W Ch.refl rfl, fun a h => ⟨fun h2 => k _ _ _ _ _ _ (.movePast h h2) W Ch.refl rfl, fun h2 H' W' C' => k _ _ _ _ _ _ (.moveOk h h2) W' C' rfl⟩⟩
    | back n due =>
      refine it0 _ _ _ _ rfl _ _ _ (fun h => absurd h (by decide +kernel)) (fun _ => ?_)
      refine it0 _ _ _ _ rfl _ _ _ (fun h => absurd h (by decide +kernel)) (fun _ => ?_)
      refine it0 _ _ _ _ rfl _ _ _ (fun h => absurd h (by decide +kernel)) (fun _ => ?_)
      refine it0 _ _ _ _ rfl _ _ _ (fun _ => ?_) (fun h => absurd rfl h)
      refine ⟨_, rfl, _, rfl, p, _, _, _, rfl, rfl, SqT.of hp, at_of (j := 1) rfl rfl, ?_⟩
      exact ⟨x, wa, ra, S, l, now, many, m, n, rfl, W, fun h H' s' => k _ _ _ _ _ _ (.backNo h) (W.same s') (Same.ch s') rfl, fun a h H' W' C' => k _ _ _ _ _ _ (.backOk h) W' C' rfl⟩
    | rest n due =>
      refine it0 _ _ _ _ rfl _ _ _ (fun h => absurd h (by decide +kernel)) (fun _ => ?_)
      refine it0 _ _ _ _ rfl _ _ _ (fun h => absurd h (by decide +kernel)) (fun _ => ?_)
      refine it0 _ _ _ _ rfl _ _ _ (fun h => absurd h (by decide +kernel)) (fun _ => ?_)
      refine it0 _ _ _ _ rfl _ _ _ (fun h => absurd h (by decide +kernel)) (fun _ => ?_)
      refine it0 _ _ _ _ rfl _ _ _ (fun _ => ?_) (fun h => absurd rfl h)
      refine ⟨_, rfl, _, rfl, p, _, _, _, rfl, rfl, SqT.of hp, at_of (j := 1) rfl rfl, ?_⟩
      exact ⟨x, wa, ra, S, l, now, many, m, n, rfl, W, hm, fun h => k _ _ _ _ _ _ (.restNo h) W Ch.refl rfl, fun a h H' W' C' => k _ _ _ _ _ _ (.restOk h) W' C' rfl⟩
    | on n due =>
      refine it0 _ _ _ _ rfl _ _ _ (fun h => absurd h (by decide +kernel)) (fun _ => ?_)
      refine it0 _ _ _ _ rfl _ _ _ (fun h => absurd h (by decide +kernel)) (fun _ => ?_)
      refine it0 _ _ _ _ rfl _ _ _ (fun h => absurd h (by decide +kernel)) (fun _ => ?_)
      refine it0 _ _ _ _ rfl _ _ _ (fun h => absurd h (by decide +kernel)) (fun _ => ?_)
      refine it0 _ _ _ _ rfl _ _ _ (fun h => absurd h (by decide +kernel)) (fun _ => ?_)
      refine ⟨_, rfl, _, rfl, p, _, _, _, rfl, rfl, SqT.of hp, at_of (j := 1) rfl rfl, ?_⟩
      exact ⟨x, wa, ra, S, l, now, many, m, n, rfl, W, hm, fun h => k _ _ _ _ _ _ (.onNo h) W Ch.refl rfl, fun a h H' W' C' => k _ _ _ _ _ _ (.onOk h) W' C' rfl⟩
end
end L2.TK
set_option Elab.async false
set_option linter.all false
set_option maxRecDepth 100000
set_option maxHeartbeats 8000000
namespace L2.TK
open PySem TkM
/-- isinstance of a tracked exception, of whatever class -/
def rIsVX (K : PySem.W.Frag) : List V → Hp → VK → Prop := fun xs H Q => ∃ D : Addr, ExcC K D ∧ rIsV K D xs H Q
theorem call_isVX {X : Cx} : CallR X (.builtin "isinstance") (rIsVX X.K) := by
  intro pins s sg H xs us Q I r h
  obtain ⟨D, C, h⟩ := h
  exact call_isV C pins s sg H xs us Q I r h
structure Kin (K : PySem.W.Frag) (CBad CPast CNot : Addr) : Prop where
  bb : PySem.W.kitOne K (.ref CBad) (.ref CBad) = some true
  bp : PySem.W.kitOne K (.ref CBad) (.ref CPast) = some false
  bn : PySem.W.kitOne K (.ref CBad) (.ref CNot) = some false
  pp : PySem.W.kitOne K (.ref CPast) (.ref CPast) = some true
  pb : PySem.W.kitOne K (.ref CPast) (.ref CBad) = some false
  pn : PySem.W.kitOne K (.ref CPast) (.ref CNot) = some false
  nn : PySem.W.kitOne K (.ref CNot) (.ref CNot) = some true
  nb : PySem.W.kitOne K (.ref CNot) (.ref CBad) = some false
  np : PySem.W.kitOne K (.ref CNot) (.ref CPast) = some false
def Rs (m : Mp Str) : Prop := ∀ n a, m n = some a → a.rests = true → 1 ≤ a.val
def spAsked (CW CA CB : Addr) : Sp := fun vs H Q _ => ∃ (A : BA) (F : Addr → Prop) (S : Int) (L : Nat) (now many : Int) (m : Mp Str) (p : Addr) (d : Deed), vs = [.ref A.x, .ref p] ∧ Bk CW CA CB H F A S L now many m ∧ H p = some (.tup (deedV d)) ∧ 0 ≤ many ∧ many ≤ 900 ∧ m many = none ∧ Rs m ∧ (∀ t, d = .pass t → 0 ≤ t → Few3 m (now + t)) ∧
  ∀ (o : Out) (now' many' : Int) (m' : Mp Str) (A' : BA) (F' : Addr → Prop) (H' : Hp) (v : V), Does now many m d o now' many' m' → A'.x = A.x → Bk CW CA CB H' F' A' S L now' many' m' → Ch F F' H H' → Rep H' v o → (∀ q, v = .ref q → H q = none ∧ ¬ F' q) → Q v H'
section
variable {P : Program} {w : World} {K : PySem.W.Frag} {mg : Str → Option Value} {base : Heap} {CW CA CB CT CBad CPast CNot : Addr}
theorem scAsked : FnScope ["_law_book", "_law_deed_here", "_law_kept", "_law_found", "e", "_law_kinds"] ["_law_book", "_law_deed_here"] (defScope s_law_asked) := ⟨rfl, rfl, rfl, by decide +kernel, rfl, by decide +kernel, by decide +kernel⟩
theorem ok_Asked {f : Addr} {fd : FuncData} (F : Fun K "_law_asked" "_law_asked" s_law_asked f fd) (T : Txt K mg CW CA CB CT CBad CPast CNot) (N : Kin K CBad CPast CNot) (iV : mg "ValueError" = none)
    (GS : GFn P w K mg base (L2.CX P w) 3 "set_alarm" ["book", "name", "due", "step"] (spSet CW CA CB CPast)) (GP : GFn P w K mg base (L2.CX P w) 5 "pass_ticks" ["book", "ticks"] (spPass CW CA CB CPast))
    (GM : GFn P w K mg base (L2.CX P w) 3 "move" ["book", "number", "due"] (spMove CW CA CB CPast CNot)) (GB : GFn P w K mg base (L2.CX P w) 3 "take_back" ["book", "number"] (spBack CW CA CB CNot))
    (GR : GFn P w K mg base (L2.CX P w) 3 "rest" ["book", "number"] (spRest CW CA CB CNot)) (GO : GFn P w K mg base (L2.CX P w) 3 "go_on" ["book", "number"] (spGo CW CA CB CNot)) :
    FnOk P w K mg base CX0 6 f fd ["_law_book", "_law_deed_here"] (spAsked CW CA CB) := by
  obtain ⟨fS, fdS, gS, kS, bS, GS⟩ := GS
  obtain ⟨fP, fdP, gP, kP, bP, GP⟩ := GP
  obtain ⟨fM, fdM, gM, kM, bM, GM⟩ := GM
  obtain ⟨fB, fdB, gB, kB, bB, GB⟩ := GB
  obtain ⟨fR, fdR, gR, kR, bR, GR⟩ := GR
  obtain ⟨fO, fdO, gO, kO, bO, GO⟩ := GO
  refine F.ok scAsked (fun vs H Q E h => ?_) (fun cdv A outer s H vs Q E hr h => ?_)
  · obtain ⟨A, F, S, L, now, many, m, p, d, rfl, _⟩ := h
    rfl
  · obtain ⟨A, F, S, L, now, many, m, p, d, rfl, ⟨b, ahead⟩, hp, hm0, hm, hfree, hrs, few, k⟩ := h
    have hr3 : Room 3 _ := hr.mono (by decide)
    have hr5 : Room 5 _ := hr
    have hub : ∀ {A' : Around}, A'.units + 64 < cLine → A'.units + 1 + PySem.W.Datum.depth Bool < cLine := fun {A'} h => by
      have e : PySem.W.Datum.depth Bool ≤ 10 := by decide
      omega
    have hub := hub hr.units
    refine ⟨_, (pss_cons (ps_set (i := 2) scAsked.nd rfl (Or.inl rfl) pe_non)
      (pss_cons (ps_set (i := 3) scAsked.nd rfl (Or.inl rfl) pe_non)
      (C8.pss_cut (ps_try_keep (i := 4) (Wout := fun _ _ _ _ => False) rfl rfl rfl scAsked.nd rfl rfl ⟨rfl, by decide, Or.inl T.mgT⟩ takes0
 (fun W pn xe tk _ => pss_one (ps_if (pt_cmpR op_eq (pe_ix (r := rIxT K) ix_tup (pv 1) pe_int (fun _ _ => rfl)) pe_str (nomark _)) (pss_one (ps_set (i := 3) scAsked.nd rfl (Or.inl rfl) (by exact (pe_callS GS hr3 rfl gS kS bS (fun sg => passAt tk sg) (by exact (pa_cons (pv 0) (pa_cons (pe_ix (r := rIxT K) ix_tup (pv 1) pe_int (fun _ _ => rfl)) (pa_cons (pe_ix (r := rIxT K) ix_tup (pv 1) pe_int (fun _ _ => rfl)) (pa_cons (pe_ix (r := rIxT K) ix_tup (pv 1) pe_int (fun _ _ => rfl)) pa_nil))))))))) (pss_one (ps_if (pt_cmpR op_eq (pe_ix (r := rIxT K) ix_tup (pv 1) pe_int (fun _ _ => rfl)) pe_str (nomark _)) (pss_one (ps_set (i := 3) scAsked.nd rfl (Or.inl rfl) (by exact (pe_callS GP hr5 rfl gP kP bP (fun sg => passAt tk sg) (by exact (pa_cons (pv 0) (pa_cons (pe_ix (r := rIxT K) ix_tup (pv 1) pe_int (fun _ _ => rfl)) pa_nil))))))) (pss_one (ps_if (pt_cmpR op_eq (pe_ix (r := rIxT K) ix_tup (pv 1) pe_int (fun _ _ => rfl)) pe_str (nomark _)) (pss_one (ps_set (i := 3) scAsked.nd rfl (Or.inl rfl) (by exact (pe_callS GM hr3 rfl gM kM bM (fun sg => passAt tk sg) (by exact (pa_cons (pv 0) (pa_cons (pe_ix (r := rIxT K) ix_tup (pv 1) pe_int (fun _ _ => rfl)) (pa_cons (pe_ix (r := rIxT K) ix_tup (pv 1) pe_int (fun _ _ => rfl)) pa_nil)))))))) (pss_one (ps_if (pt_cmpR op_eq (pe_ix (r := rIxT K) ix_tup (pv 1) pe_int (fun _ _ => rfl)) pe_str (nomark _)) (pss_one (ps_set (i := 3) scAsked.nd rfl (Or.inl rfl) (by exact (pe_callS GB hr3 rfl gB kB bB (fun sg => passAt tk sg) (by exact (pa_cons (pv 0) (pa_cons (pe_ix (r := rIxT K) ix_tup (pv 1) pe_int (fun _ _ => rfl)) pa_nil))))))) (pss_one (ps_if (pt_cmpR op_eq (pe_ix (r := rIxT K) ix_tup (pv 1) pe_int (fun _ _ => rfl)) pe_str (nomark _)) (pss_one (ps_set (i := 3) scAsked.nd rfl (Or.inl rfl) (by exact (pe_callS GR hr3 rfl gR kR bR (fun sg => passAt tk sg) (by exact (pa_cons (pv 0) (pa_cons (pe_ix (r := rIxT K) ix_tup (pv 1) pe_int (fun _ _ => rfl)) pa_nil))))))) (pss_one (ps_set (i := 3) scAsked.nd rfl (Or.inl rfl) (by exact (pe_callS GO hr3 rfl gO kO bO (fun sg => passAt tk sg) (by exact (pa_cons (pv 0) (pa_cons (pe_ix (r := rIxT K) ix_tup (pv 1) pe_int (fun _ _ => rfl)) pa_nil)))))))))))))))))
 (fun a oe cls d pn hz hf => pss_one (ps_set (i := 2) scAsked.nd rfl (Or.inl rfl) (pv 4))))
      (pss_cons (ps_if (pt_cmp (pc_isN (pv 2))) (pss_one (ps_ret (pv 3))) pss_nil)
      (pss_cons (ps_set (i := 5) scAsked.nd rfl (Or.inl rfl) (pe_lst (pa_cons (pe_callB call_isVX (by rfl) T.isi (by decide +kernel) (pa_cons (pv 2) (pa_cons (pe_glob (v := .ref CPast) rfl T.past.g rfl) pa_nil))) (pa_cons (pe_callB call_isVX (by rfl) T.isi (by decide +kernel) (pa_cons (pv 2) (pa_cons (pe_glob (v := .ref CNot) rfl T.nott.g rfl) pa_nil))) (pa_cons (pe_callB call_isVX (by rfl) T.isi (by decide +kernel) (pa_cons (pv 2) (pa_cons (pe_glob (v := .ref CBad) rfl T.bad.g rfl) pa_nil))) pa_nil)))))
      (pss_cons (ps_if (PW.pt (pw_or (pt_cmpR op_ne (pe_bm PySem.F.plainAttrs_list PySem.F.slot_list_count PySem.F.type_list_count (mt_countD (A := Bool) hub) (pv 5) (pa_cons pe_bl pa_nil)) pe_int (nomark _)) (pw_or1 (pt_not (pt_val (pe_callB call_isVX (by rfl) T.isi (by decide +kernel) (pa_cons (pv 2) (pa_cons (pe_bltn (v := .ty "ValueError") (u := .type "ValueError") (by rfl) iV (by decide +kernel) rfl) pa_nil)))))))) (pss_one (ps_ret pe_str)) pss_nil)
      (pss_one (ps_ret (pe_ix ix_list (pe_lst (pa_cons pe_str (pa_cons pe_str (pa_cons pe_str pa_nil)))) (pe_bm PySem.F.plainAttrs_list PySem.F.slot_list_index PySem.F.type_list_index mt_index (pv 5) (pa_cons pe_bl pa_nil)) (fun _ _ => rfl)))))))))), ?_⟩
    have it0 : ∀ (v2 v3 v4 v5 : Option V) (s : Str), ∀ v1 w2 w3 : V, deedV d = [.str s, v1, w2, w3] → ∀ (q : Str) (A' B' : Hp → Prop), (s = q → A' H) → (s ≠ q → B' H) →
        tTest (tOp rEq (tOp (rIxT K) (tVar 1) (tC (.int 0))) (tC (.str q))) [some (.ref A.x), some (.ref p), v2, v3, v4, v5] H (fun b H' => if b = true then A' H' else B' H') := fun v2 v3 v4 v5 s v1 w2 w3 e q A' B' h1 h2 =>
      ⟨_, rfl, p, _, _, _, rfl, rfl, SqT.of hp, at_of (j := 0) rfl (by rw [e]; rfl), rfl, _, rfl, by
        by_cases z : s = q
        · exact ifT (by rw [z]) (h1 z)
        · exact ifF (fun y => z (V.str.inj y)) (h2 z)⟩
    have it0 := it0 (some .non) (some .non) none none
    refine ⟨fun sg H' => (∃ v o now' many' m' A' F', sg = [some (.ref A.x), some (.ref p), some .non, some v, none, none] ∧ Does now many m d o now' many' m' ∧ A'.x = A.x ∧ Bk CW CA CB H' F' A' S L now' many' m' ∧ Ch F F' H H' ∧ Rep H' v o ∧ ∀ q, v = .ref q → H q = none ∧ ¬ F' q) ∨
      ∃ a D, sg = [some (.ref A.x), some (.ref p), some (.ref a), some .non, none, none] ∧ H' a = some (ExV (.ref D) a) ∧ Same H H' ∧ ((D = CPast ∧ Does now many m d (.str "past") now many m) ∨ (D = CNot ∧ Does now many m d (.str "there") now many m)), ?_, ?_⟩
    · cases d with
      | set due st nm =>
        refine it0 _ _ _ _ rfl _ _ _ (fun _ => ?_) (fun h => absurd rfl h)
        refine ⟨_, rfl, _, rfl, p, _, _, _, rfl, rfl, SqT.of hp, at_of (j := 3) rfl rfl, _, rfl, p, _, _, _, rfl, rfl, SqT.of hp, at_of (j := 1) rfl rfl, _, rfl, p, _, _, _, rfl, rfl, SqT.of hp, at_of (j := 2) rfl rfl, ?_⟩
        exact ⟨A, F, S, L, now, many, m, nm, due, st, rfl, ⟨b, ahead⟩, hm0, hm, hfree, fun h => ⟨true, T.past.tick, fun _ => ⟨rfl, fun a ha => ⟨_, rfl, fun ha2 => .inr ⟨a, CPast, rfl, upd_same, Same.new ha2, .inl ⟨rfl, .setPast h⟩⟩⟩⟩, fun z => nomatch z⟩, fun h1 h2 A1 F1 H1 ex1 b1 C1 => .inl ⟨_, _, _, _, _, A1, F1, rfl, .setOk h1 h2, ex1, b1, C1, rfl, fun q z => nomatch z⟩⟩
      | pass t =>
        refine it0 _ _ _ _ rfl _ _ _ (fun h => absurd h (by decide +kernel)) (fun _ => ?_)
        refine it0 _ _ _ _ rfl _ _ _ (fun _ => ?_) (fun h => absurd rfl h)
        refine ⟨_, rfl, _, rfl, p, _, _, _, rfl, rfl, SqT.of hp, at_of (j := 1) rfl rfl, ?_⟩
        exact ⟨A, F, S, L, now, many, m, t, rfl, ⟨b, ahead⟩, hm, fun h => ⟨true, T.past.tick, fun _ => ⟨rfl, fun a ha => ⟨_, rfl, fun ha2 => .inr ⟨a, CPast, rfl, upd_same, Same.new ha2, .inl ⟨rfl, .passPast h⟩⟩⟩⟩, fun z => nomatch z⟩, fun h => ⟨few t rfl h, fun A1 F1 H1 T1 q1 ex1 b1 T2 C1 hq1 nq1 tl => .inl ⟨_, _, _, _, _, A1, F1, rfl, .passOk h T2, ex1, b1, C1, ⟨q1, rfl, tl⟩, fun q z => by cases z; exact ⟨hq1, nq1⟩⟩⟩⟩
      | move n due =>
        refine it0 _ _ _ _ rfl _ _ _ (fun h => absurd h (by decide +kernel)) (fun _ => ?_)
        refine it0 _ _ _ _ rfl _ _ _ (fun h => absurd h (by decide +kernel)) (fun _ => ?_)
        refine it0 _ _ _ _ rfl _ _ _ (fun _ => ?_) (fun h => absurd rfl h)
        refine ⟨_, rfl, _, rfl, p, _, _, _, rfl, rfl, SqT.of hp, at_of (j := 1) rfl rfl, _, rfl, p, _, _, _, rfl, rfl, SqT.of hp, at_of (j := 2) rfl rfl, ?_⟩
        exact ⟨A, F, S, L, now, many, m, n, due, rfl, ⟨b, ahead⟩, hm, fun h => ⟨true, T.nott.tick, fun _ => ⟨rfl, fun a ha => ⟨_, rfl, fun ha2 => .inr ⟨a, CNot, rfl, upd_same, Same.new ha2, .inr ⟨rfl, .moveNo (sel_none h)⟩⟩⟩⟩, fun z => nomatch z⟩, fun a h => ⟨fun h2 => ⟨true, T.nott.tick, fun _ => ⟨rfl, fun a ha => ⟨_, rfl, fun ha2 => .inr ⟨a, CNot, rfl, upd_same, Same.new ha2, .inr ⟨rfl, .moveNo (sel_other h (by rw [h2]; decide))⟩⟩⟩⟩, fun z => nomatch z⟩, fun h2 => ⟨fun h3 => ⟨true, T.past.tick, fun _ => ⟨rfl, fun a ha => ⟨_, rfl, fun ha2 => .inr ⟨a, CPast, rfl, upd_same, Same.new ha2, .inl ⟨rfl, .movePast (by rw [sel_some h, if_pos h2]) h3⟩⟩⟩⟩, fun z => nomatch z⟩, fun h3 A1 F1 H1 ex1 b1 C1 => .inl ⟨_, _, _, _, _, A1, F1, rfl, .moveOk (by rw [sel_some h, if_pos h2]) h3, ex1, b1, C1, rfl, fun q z => nomatch z⟩⟩⟩⟩
      | back n due =>
        refine it0 _ _ _ _ rfl _ _ _ (fun h => absurd h (by decide +kernel)) (fun _ => ?_)
        refine it0 _ _ _ _ rfl _ _ _ (fun h => absurd h (by decide +kernel)) (fun _ => ?_)
        refine it0 _ _ _ _ rfl _ _ _ (fun h => absurd h (by decide +kernel)) (fun _ => ?_)
        refine it0 _ _ _ _ rfl _ _ _ (fun _ => ?_) (fun h => absurd rfl h)
        refine ⟨_, rfl, _, rfl, p, _, _, _, rfl, rfl, SqT.of hp, at_of (j := 1) rfl rfl, ?_⟩
        exact ⟨A, F, S, L, now, many, m, n, rfl, ⟨b, ahead⟩, fun h => ⟨true, T.nott.tick, fun _ => ⟨rfl, fun a ha => ⟨_, rfl, fun ha2 => .inr ⟨a, CNot, rfl, upd_same, Same.new ha2, .inr ⟨rfl, .backNo h⟩⟩⟩⟩, fun z => nomatch z⟩, fun a h A1 F1 H1 ex1 b1 C1 => .inl ⟨_, _, _, _, _, A1, F1, rfl, .backOk h, ex1, b1, C1, rfl, fun q z => nomatch z⟩⟩
      | rest n due =>
        refine it0 _ _ _ _ rfl _ _ _ (fun h => absurd h (by decide +kernel)) (fun _ => ?_)
        refine it0 _ _ _ _ rfl _ _ _ (fun h => absurd h (by decide +kernel)) (fun _ => ?_)
        refine it0 _ _ _ _ rfl _ _ _ (fun h => absurd h (by decide +kernel)) (fun _ => ?_)
        refine it0 _ _ _ _ rfl _ _ _ (fun h => absurd h (by decide +kernel)) (fun _ => ?_)
        refine it0 _ _ _ _ rfl _ _ _ (fun _ => ?_) (fun h => absurd rfl h)
        refine ⟨_, rfl, _, rfl, p, _, _, _, rfl, rfl, SqT.of hp, at_of (j := 1) rfl rfl, ?_⟩
        exact ⟨A, F, S, L, now, many, m, n, rfl, ⟨b, ahead⟩, fun h => ⟨true, T.nott.tick, fun _ => ⟨rfl, fun a ha => ⟨_, rfl, fun ha2 => .inr ⟨a, CNot, rfl, upd_same, Same.new ha2, .inr ⟨rfl, .restNo (sel_none h)⟩⟩⟩⟩, fun z => nomatch z⟩, fun a h => ⟨fun h2 => ⟨true, T.nott.tick, fun _ => ⟨rfl, fun a ha => ⟨_, rfl, fun ha2 => .inr ⟨a, CNot, rfl, upd_same, Same.new ha2, .inr ⟨rfl, .restNo (sel_other h (by rw [h2]; decide))⟩⟩⟩⟩, fun z => nomatch z⟩, fun h2 A1 F1 H1 ex1 b1 C1 => .inl ⟨_, _, _, _, _, A1, F1, rfl, .restOk (by rw [sel_some h, if_pos h2]), ex1, b1, C1, rfl, fun q z => nomatch z⟩⟩⟩
      | on n due =>
        refine it0 _ _ _ _ rfl _ _ _ (fun h => absurd h (by decide +kernel)) (fun _ => ?_)
        refine it0 _ _ _ _ rfl _ _ _ (fun h => absurd h (by decide +kernel)) (fun _ => ?_)
        refine it0 _ _ _ _ rfl _ _ _ (fun h => absurd h (by decide +kernel)) (fun _ => ?_)
        refine it0 _ _ _ _ rfl _ _ _ (fun h => absurd h (by decide +kernel)) (fun _ => ?_)
        refine it0 _ _ _ _ rfl _ _ _ (fun h => absurd h (by decide +kernel)) (fun _ => ?_)
        refine ⟨_, rfl, _, rfl, p, _, _, _, rfl, rfl, SqT.of hp, at_of (j := 1) rfl rfl, ?_⟩
        exact ⟨A, F, S, L, now, many, m, n, rfl, ⟨b, ahead⟩, hm, fun h => ⟨true, T.nott.tick, fun _ => ⟨rfl, fun a ha => ⟨_, rfl, fun ha2 => .inr ⟨a, CNot, rfl, upd_same, Same.new ha2, .inr ⟨rfl, .onNo (sel_none h)⟩⟩⟩⟩, fun z => nomatch z⟩, fun a h => ⟨fun h2 => ⟨true, T.nott.tick, fun _ => ⟨rfl, fun a ha => ⟨_, rfl, fun ha2 => .inr ⟨a, CNot, rfl, upd_same, Same.new ha2, .inr ⟨rfl, .onNo (sel_other h (by rw [h2]; decide))⟩⟩⟩⟩, fun z => nomatch z⟩, fun h2 => ⟨hrs n a h h2, fun A1 F1 H1 ex1 b1 C1 => .inl ⟨_, _, _, _, _, A1, F1, rfl, .onOk (by rw [sel_some h, if_pos h2]), ex1, b1, C1, rfl, fun q z => nomatch z⟩⟩⟩⟩
    · rintro sg H2 (⟨v, o, now', many', m', A', F', rfl, hD, ex, bb, C, rep, new⟩ | ⟨a, D, rfl, ea, hs, (⟨rfl, hD⟩ | ⟨rfl, hD⟩)⟩)
      · refine ⟨_, rfl, _, rfl, iteT ⟨_, rfl, ?_⟩⟩
        exact k o now' many' m' A' F' H2 v hD ex bb C rep new
      · refine ⟨_, rfl, _, rfl, iteF ?_⟩
        have EX := T.past.isC
        refine ⟨_, rfl, D, EX, a, _, _, true, rfl, ea, fun u hu => hu, N.pp, _, rfl, D, EX, a, _, _, false, rfl, ea, fun u hu => hu, N.pn, _, rfl, D, EX, a, _, _, false, rfl, ea, fun u hu => hu, N.pb, Nat.le_of_lt (small1000 (by decide)), fun c1 hc1 => ?_⟩
        have s1 := Same.new (o := .lst [.bl true, .bl false, .bl false]) hc1
        have ea := s1 _ _ ea
        have el : upd H2 c1 (.lst [.bl true, .bl false, .bl false]) c1 = some (.lst [.bl true, .bl false, .bl false]) := upd_same
        refine ⟨_, rfl, .inl ⟨rfl, _, SqL.of el⟩, c1, _, .bl true, [true, false, false], true, rfl, rfl, SqL.of el, .cons (hd_bool _) (.cons (hd_bool _) (.cons (hd_bool _) .nil)), hd_bool true, rfl, _, rfl, ifNF rfl ?_⟩
        refine ⟨_, rfl, D, EX, a, _, _, true, rfl, ea, fun u hu => hu, T.past.ve, _, rfl, iteF ?_⟩
        refine ⟨Nat.le_of_lt (small1000 (by decide)), fun c2 hc2 => ?_⟩
        have s2 := Same.new (o := .lst [.str ("past" : Str), .str ("there" : Str), .str ("wheels" : Str)]) hc2
        have el2 := s2 _ _ el
        refine ⟨_, rfl, .inl ⟨rfl, _, SqL.of el2⟩, c1, [.bl true, .bl false, .bl false], .bl true, 0, .bl true, rfl, rfl, SqL.of el2, rfl, rfl, rfl, rfl, fun i z hi hz => ?_, ?_⟩
        · omega
        · refine ⟨c2, _, _, _, rfl, rfl, SqL.of upd_same, at_of (j := 0) rfl rfl, ?_⟩
          have s3 := (hs.trans s1).trans s2
          exact k _ _ _ _ A F _ _ hD rfl ⟨b.same s3, ahead⟩ (Same.ch s3) rfl fun q z => nomatch z
      · refine ⟨_, rfl, _, rfl, iteF ?_⟩
        have EX := T.nott.isC
        refine ⟨_, rfl, D, EX, a, _, _, false, rfl, ea, fun u hu => hu, N.np, _, rfl, D, EX, a, _, _, true, rfl, ea, fun u hu => hu, N.nn, _, rfl, D, EX, a, _, _, false, rfl, ea, fun u hu => hu, N.nb, Nat.le_of_lt (small1000 (by decide)), fun c1 hc1 => ?_⟩
        have s1 := Same.new (o := .lst [.bl false, .bl true, .bl false]) hc1
        have ea := s1 _ _ ea
        have el : upd H2 c1 (.lst [.bl false, .bl true, .bl false]) c1 = some (.lst [.bl false, .bl true, .bl false]) := upd_same
        refine ⟨_, rfl, .inl ⟨rfl, _, SqL.of el⟩, c1, _, .bl true, [false, true, false], true, rfl, rfl, SqL.of el, .cons (hd_bool _) (.cons (hd_bool _) (.cons (hd_bool _) .nil)), hd_bool true, rfl, _, rfl, ifNF rfl ?_⟩
        refine ⟨_, rfl, D, EX, a, _, _, true, rfl, ea, fun u hu => hu, T.nott.ve, _, rfl, iteF ?_⟩
        refine ⟨Nat.le_of_lt (small1000 (by decide)), fun c2 hc2 => ?_⟩
        have s2 := Same.new (o := .lst [.str ("past" : Str), .str ("there" : Str), .str ("wheels" : Str)]) hc2
        have el2 := s2 _ _ el
        refine ⟨_, rfl, .inl ⟨rfl, _, SqL.of el2⟩, c1, [.bl false, .bl true, .bl false], .bl true, 1, .bl true, rfl, rfl, SqL.of el2, rfl, rfl, rfl, rfl, fun i z hi hz => ?_, ?_⟩
        · have : i = 0 := by omega
          subst this
          cases hz
          rfl
        · refine ⟨c2, _, _, _, rfl, rfl, SqL.of upd_same, at_of (j := 1) rfl rfl, ?_⟩
          have s3 := (hs.trans s1).trans s2
          exact k _ _ _ _ A F _ _ hD rfl ⟨b.same s3, ahead⟩ (Same.ch s3) rfl fun q z => nomatch z
end
end L2.TK
set_option Elab.async false
set_option linter.all false
set_option maxRecDepth 100000
set_option maxHeartbeats 4000000
namespace L2.TK
open PySem PySem.Spec PyProof.Rows TkM PySem.W
theorem collect_dictD {prog : Program} {w : World} {K : Type} [DecidableEq K] {A : Around} {E : Value → Shared → Prop} {s : Shared} {d : Addr} {knd : KeyKind prog w K} {kvs : List (K × Value)} {ep : Nat} {Q : List Value → Shared → Prop} (lo : (d == sysModules) = false) (hh : A.handled = none)
    (hat : s.heap.DictAt knd d kvs ep) (hn : kvs.length ≤ sizeLine)
    (hQ : ∀ h' tk (vs : List Value), (∀ b o, s.heap.get? b = some o → h'.get? b = some o) → s.heap.objs.size ≤ h'.objs.size → vs.length = kvs.length → (∀ (j : Nat) v, vs[j]? = some v → ∃ k x, kvs[j]? = some (k, x) ∧ knd.is k v = true) → Q vs { s with heap := h', toks := tk }) :
    wpAny (model prog w) A (collect (.ref d)) Q E s := by
  have hlt : d < s.heap.objs.size := hat.lt_size
  unfold collect
  refine wpAny_bind (wpAny_runValue (codeAny_builtin F.entry_proto_collect ?_))
  rw [Around.under_plainId F.plain_proto_collect _]
  show wpAny _ A.in1 (newList [] >>= fun l => again (.builtin "list.__iadd__" ⟨[l, .ref d], []⟩)) _ _ s
  refine wpAny_bind (wpAny_newObj_type ?_)
  refine wpAny_pure ⟨plainId_quiet F.plain_list_iadd _, codeAny_builtin F.entry_list_iadd ?_⟩
  rw [Around.under_plainId F.plain_list_iadd _]
  have hS : (s.heap.push { cls := .type "list", data := .seq ([] : List Value).toArray }).get? s.heap.objs.size = some { cls := .type "list", data := .seq ([] : List Value).toArray } := Heap.get?_push_size _ rfl
  show wpAny _ A.in1 (Builtin.List.listExtendWith (.ref s.heap.objs.size) (.ref d) (.ref s.heap.objs.size)) _ _ _
  have fin : ∀ h' tk (acc' : Array Value) c', (∀ b o, b ≠ s.heap.objs.size → (s.heap.push { cls := .type "list", data := .seq ([] : List Value).toArray }).get? b = some o → h'.get? b = some o) →
      h'.get? s.heap.objs.size = some { cls := .type "list", dict := none, data := .seq acc' c', slots := #[] } → ItemsOf (fun i v => ∃ k x, kvs[i]? = some (k, x) ∧ knd.is k v = true) acc' kvs.length →
      wpAny (model prog w) A (do
        let o ← load s.heap.objs.size
        match o.data with
        | .seq xs _ => pure xs.toList
        | _ => unsupported "internal:collect") Q E { s with heap := h', toks := tk } := fun h' tk acc' c' hk hS' hacc => by
    refine wpAny_bind (wpAny_load hS' ?_)
    show wpAny _ _ (pure acc'.toList) Q E _
    have hlt' := Heap.lt_size hS'
    refine wpAny_pure (hQ h' tk acc'.toList (fun b o e => hk b o (Nat.ne_of_lt (Heap.lt_size e)) (Heap.get?_push_of_some _ e)) (Nat.le_of_lt hlt') (by rw [Array.length_toList]; exact hacc.1) fun j v e => hacc.2 j v (by rw [← Array.getElem?_toList]; exact e))
  refine wpAny_mono (kdl_extend (R := fun r s' => ∃ h' tk acc' c', r = .ok (.ret (.ref s.heap.objs.size)) ∧ s' = { s with heap := h', toks := tk } ∧ (∀ b o, b ≠ s.heap.objs.size → (s.heap.push { cls := .type "list", data := .seq ([] : List Value).toArray }).get? b = some o → h'.get? b = some o) ∧
      h'.get? s.heap.objs.size = some { cls := .type "list", dict := none, data := .seq acc' c', slots := #[] } ∧ ItemsOf (fun i v => ∃ k x, kvs[i]? = some (k, x) ∧ knd.is k v = true) acc' kvs.length)
    (s := { s with heap := s.heap.push { cls := .type "list", data := .seq ([] : List Value).toArray } }) (kdl_dict (knd := knd) (kvs := kvs) (ep := ep) lo) hh (hat.push _) s.heap.objs.size (Nat.ne_of_gt hlt) (Nat.ne_of_gt hlt) (.ref s.heap.objs.size) _ hS (fun h' tk acc' c' hk hS' hacc => ⟨h', tk, acc', c', rfl, rfl, hk, hS', hacc⟩) hn) (fun fi s' h => ?_) (fun e s' h => ?_)
  · cases fi with
    | done f =>
      obtain ⟨h', tk, acc', c', e, rfl, hk, hS', hacc⟩ := h
      cases e
      exact fin h' tk acc' c' hk hS' hacc
    | again c0 =>
      refine ⟨h.1, codeAny_mono h.2 fun r s'' hr => ?_⟩
      obtain ⟨h', tk, acc', c', rfl, rfl, hk, hS', hacc⟩ := hr
      exact fin h' tk acc' c' hk hS' hacc
  · obtain ⟨h', tk, acc', c', e, _⟩ := h
    cases e
/-- sorted(d), d a dict with whole numbers as keys -/
def rSortKD : List V → Hp → VK → Prop := fun vs H Q => ∃ (d : Addr) (kvs : List (L2.Key × V)) (ns : List Int), vs = [V.ref d] ∧ H d = some (.dK kvs) ∧ kvs.map (·.1) = ns.map Sum.inl ∧
  ∀ (ns' : List Int) (p : Addr), ns'.Perm ns → ns'.Pairwise (· ≤ ·) → H p = none → Q (.ref p) (upd H p (.lst (ns'.map V.int)))
theorem cr_sortKD {X : Cx} (hcalm : X.calm = true) : CallR X (.builtin "sorted") rSortKD := by
  intro pins s sg H vs us Q I r h
  obtain ⟨d, kvs, ns, rfl, hd, hk, q⟩ := h
  rw [Vals.ref1 r]
  obtain ⟨z, lo, xs, rel, dd⟩ := dk_of I.hok hd
  obtain ⟨ep, hat⟩ := dd.dictAt
  refine Calls.call_function_entry kind_sorted plain_sorted entry_sorted (args_sorted1 _) ?_
  unfold Builtin.«sorted»
  refine wpAny_bind (m := checkCount "sorted" 1 1 _) (wpAny_pure ?_)
  have hz : xs.length ≤ sizeLine := by
    rw [← rel.length]
    exact z
  refine wpAny_bind (collect_dictD (knd := mixKind X.prog X.w) (kvs := xs) (ep := ep) lo (I.ok.hd hcalm) hat hz fun h' tk vs kp sz hl hv => ?_)
  have ek : (xs.map fun p => kV p.1) = ns.map V.int := by
    have e := congrArg (List.map kV) rel.keys
    rw [List.map_map, List.map_map] at e
    have e2 := congrArg (List.map kV) hk
    rw [List.map_map, List.map_map] at e2
    exact e.symm.trans e2
  have hvals : Vals (ns.map V.int) vs := by
    rw [← ek]
    exact keys_at hl hv
  have hi := hvals.ints
  have hvz : vs.length ≤ sizeLine := by rw [hl]; exact hz
  refine wpAny_bind (wpAny_newList ?_ hvz)
  have hoL : (h'.push (seqObj "list" vs.toArray 0)).get? h'.objs.size = some (seqObj "list" vs.toArray 0) := Heap.get?_push_size _ rfl
  refine wpAny_bind (wpAny_holding (wpAny_call_entry PyProof.Rows.slot_list_sort ⟨_, hoL, rfl⟩ PyProof.Rows.entry_list_sort
    (SrtO.list_sort_ord SrtO.swo_int hoL hvz (fun h2 => SrtO.ints_sortable hi h2) fun out h1 h2 => ⟨_, rfl, ?_⟩) (PyProof.Rows.args_list_sort _)))
  obtain ⟨k1, k2, k3⟩ := SrtO.ints_out hi h1 h2
  obtain ⟨c, hc⟩ := PyProof.Rows.sortedHeap_at (vs := vs) (out := out.toArray) hoL
  have hlen : ((out.map SrtO.iv).map V.int).length ≤ sizeLine := by
    rw [List.length_map, k2.length_eq, ← List.length_map (f := V.int), Paired.length hvals]
    exact hvz
  refine wpAny_pure ⟨_, rfl, ?_⟩
  refine ⟨.ref h'.objs.size, upd H h'.objs.size (.lst ((out.map SrtO.iv).map V.int)), I.laid (t' := tk) (fun b u e => ?_) sz ⟨hlen, out, c, vals_of_ints k1, hc⟩, rfl, q _ _ k2 k3 (I.hok.fresh sz)⟩
  have hlt := Heap.lt_size (kp b u e)
  rw [PyProof.Rows.sortedHeap_old (Nat.ne_of_lt hlt) (by rw [size_push']; exact Nat.lt_succ_of_lt hlt)]
  exact Heap.get?_push_of_some _ (kp b u e)
end L2.TK
set_option Elab.async false
set_option linter.all false
set_option maxRecDepth 100000
set_option maxHeartbeats 8000000
namespace L2.TK
open PySem TkM
def OkO : Out → Prop
  | .non => True
  | .int _ => True
  | .str s => PyData.strOk s = true
  | .told T => ∀ x ∈ T, PyData.strOk x.2.2 = true
/-! ### told as data -/
def d3 (x : Tr Str) : PyData := .tuple [.int x.1, .int x.2.1, .str x.2.2]
theorem dp3 {K : PySem.W.Frag} {H : Hp} : ∀ {ts : List Addr} {T : List (Tr Str)}, TsAt3 H ts T → DpAll K H (ts.map V.ref) (T.map d3)
  | _, _, .nil => .nil
  | _, _, .cons h t => .cons (.tup (SqT.of h) (.cons (.int _) (.cons (.int _) (.cons (.str _) .nil)))) (dp3 t)
theorem lay3 : ∀ {T : List (Tr Str)}, (∀ x ∈ T, PyData.strOk x.2.2 = true) → PyData.canLayAll0 (T.map d3) = true ∧ PyData.depthAll (T.map d3) ≤ 2
  | [], _ => ⟨by simp [PyData.canLayAll0], by simp [PyData.depthAll]⟩
  | x :: T, h => by
    obtain ⟨h1, h2⟩ := lay3 (T := T) fun y hy => h y (List.mem_cons_of_mem _ hy)
    have h3 := h x List.mem_cons_self
    refine ⟨?_, ?_⟩
    · rw [List.map_cons, PyData.canLayAll0, h1]
      unfold d3
      simp [PyData.canLay0, PyData.canLayAll0, h3]
    · rw [List.map_cons, PyData.depthAll]
      have : (d3 x).depth ≤ 2 := by
        unfold d3
        simp [PyData.depth, PyData.depthAll]
      omega
theorem shape3 {T : List (Tr Str)} (h : ∀ x ∈ T, PyData.strOk x.2.2 = true) : SeqAt.shaped (.list (T.map d3)) = true := by
  obtain ⟨h1, h2⟩ := lay3 h
  unfold SeqAt.shaped
  rw [show PyData.canLay0 (.list (T.map d3)) = PyData.canLayAll0 (T.map d3) by simp [PyData.canLay0], h1]
  have : (PyData.list (T.map d3)).depth ≤ 64 := by
    simp only [PyData.depth]
    omega
  simpa using this
def outD : Out → PyData
  | .non => .none
  | .int n => .int n
  | .str s => .str s
  | .told T => .list (T.map d3)
theorem shapeO {o : Out} (h : OkO o) : SeqAt.shaped (outD o) = true := by
  cases o with
  | non => rfl
  | int n => simp [SeqAt.shaped, outD, PyData.canLay0, PyData.depth]
  | str s =>
    have h : PyData.strOk s = true := h
    simpa [SeqAt.shaped, outD, PyData.canLay0, PyData.depth] using h
  | told T => exact shape3 h
theorem repD {K : PySem.W.Frag} {H : Hp} {v : V} {o : Out} (h : Rep H v o) : Dp K H v (outD o) := by
  cases o with
  | non =>
    cases (show v = .non from h)
    exact .non
  | int n =>
    cases (show v = .int n from h)
    exact .int n
  | str s =>
    cases (show v = .str s from h)
    exact .str s
  | told T =>
    obtain ⟨p, rfl, ts, h1, h2⟩ := h
    exact .lst (SqL.of h1) (dp3 h2)
theorem repT {K : PySem.W.Frag} {H : Hp} {v : V} {o : Out} (h : Rep H v o) : ∃ t : String, TyX K H v (.type t) ∧ kitB t "bool" = some false ∧ kitB t "tuple" = some false := by
  cases o with
  | non =>
    cases (show v = .non from h)
    exact ⟨_, .base .non, by decide +kernel, by decide +kernel⟩
  | int n =>
    cases (show v = .int n from h)
    exact ⟨_, .base (.int n), by decide +kernel, by decide +kernel⟩
  | str s =>
    cases (show v = .str s from h)
    exact ⟨_, .base (.str s), by decide +kernel, by decide +kernel⟩
  | told T =>
    obtain ⟨p, rfl, ts, h1, h2⟩ := h
    exact ⟨_, .base (.lst h1), by decide +kernel, by decide +kernel⟩
def spIsL : Sp := fun vs H Q _ => ∃ (v1 v2 : V) (o : Out), vs = [v1, v2] ∧ Rep H v1 o ∧ Rep H v2 o ∧ OkO o ∧ Q (.bl true) H
end L2.TK
set_option Elab.async false
set_option linter.all false
set_option maxRecDepth 100000
set_option maxHeartbeats 8000000
namespace L2.TK
open PySem TkM
abbrev nmSame : List Str := ["_law_book", "_law_world", "_law_number", "_law_dues", "_law_one"]
def spSame (CW CA CB : Addr) : Sp := fun vs H Q _ => ∃ (A : BA) (F : Addr → Prop) (S : Int) (L : Nat) (l now many : Int) (m : Mp Str) (x wa ra : Addr), vs = [.ref A.x, .ref x] ∧ Bk CW CA CB H F A S L now many m ∧ WO H x wa ra S l now many m ∧ ¬ F x ∧ ¬ F wa ∧ ¬ F ra ∧ many ≤ 900 ∧
  ∀ H', Same H H' → Q (.bl true) H'
/-- the numbers of a dict, sorted: the numbers that are there -/
theorem sorted_eq {ns ns' : List Int} {m : Mp Str} {r : Bool} {ks : List Int} (h1 : ns.Pairwise (· < ·)) (h2 : ∀ n, n ∈ ns ↔ ∃ a, m n = some a ∧ a.rests = r) (p : ns'.Perm ks) (s : ns'.Pairwise (· ≤ ·)) (nd : ks.Nodup) (hk : ∀ n, n ∈ ks ↔ ∃ a, m n = some a ∧ a.rests = r) : ns' = ns := by
  have a := strict_of s (p.nodup_iff.mpr nd)
  have mem : ∀ n, n ∈ ns' ↔ n ∈ ns := fun n => by rw [p.mem_iff, hk, h2]
  refine List.Perm.eq_of_pairwise (le := fun x y : Int => x ≤ y) (fun x y _ _ h1 h2 => by omega) s (h1.imp fun {x y} h => by omega) ?_
  exact (List.perm_ext_iff_of_nodup (p.nodup_iff.mpr nd) (List.nodup_iff_pairwise_ne.mpr (h1.imp fun {x y} h => by omega))).mpr mem
theorem DA.nums {H : Hp} {d : Addr} {kvs : List (Key × V)} {m : Mp Str} {r : Bool} (D : DA H d kvs (sel r m)) : ∃ ks : List Int, kvs.map (·.1) = ks.map Sum.inl ∧ ks.Nodup ∧ ∀ n, n ∈ ks ↔ ∃ a, m n = some a ∧ a.rests = r := by
  have e : kvs.map (·.1) = (kvs.map fun e => keyN e.1).map Sum.inl := by
    rw [List.map_map]
    refine List.map_congr_left fun e he => ?_
    obtain ⟨n, hn⟩ := D.ks e he
    show e.1 = Sum.inl (keyN e.1)
    rw [hn]
    rfl
  refine ⟨_, e, ?_, fun n => ?_⟩
  · have nd := D.nd
    rw [e] at nd
    rw [List.nodup_iff_pairwise_ne, List.pairwise_map] at nd
    exact List.nodup_iff_pairwise_ne.mpr (nd.imp fun {a b} h z => h (by rw [z]))
  · have : n ∈ (kvs.map fun e => keyN e.1) ↔ (Sum.inl n : Key) ∈ kvs.map (·.1) := by
      constructor
      · intro h
        rw [e]
        exact List.mem_map.mpr ⟨n, h, rfl⟩
      · intro h
        rw [e] at h
        obtain ⟨a, h, q⟩ := List.mem_map.mp h
        cases q
        exact h
    rw [this, List.mem_map]
    constructor
    · rintro ⟨⟨kk, v⟩, he, hk⟩
      have hk : kk = Sum.inl n := hk
      subst hk
      have hv := valV_mem D.nd he
      cases q : sel r m n with
      | none =>
        rw [D.no n q] at hv
        cases hv
      | some a => exact ⟨a, (of_sel q).1, (of_sel q).2⟩
    · rintro ⟨a, h1, h2⟩
      obtain ⟨t, e1, _⟩ := D.yes n a (by rw [sel_some h1, if_pos h2])
      exact ⟨_, mem_valV e1, rfl⟩
theorem ints_dp {K : PySem.W.Frag} {H : Hp} : ∀ ns : List Int, DpAll K H (ns.map V.int) (ns.map PyData.int)
  | [] => .nil
  | n :: ns => .cons (.int n) (ints_dp ns)
theorem ints_shape (ns : List Int) : SeqAt.shaped (.list (ns.map PyData.int)) = true := by
  have h : PyData.canLayAll0 (ns.map PyData.int) = true ∧ PyData.depthAll (ns.map PyData.int) ≤ 2 := by
    induction ns with
    | nil => exact ⟨by simp [PyData.canLayAll0], by simp [PyData.depthAll]⟩
    | cons n ns ih => exact ⟨by simp [PyData.canLayAll0, PyData.canLay0, ih.1], by simp only [List.map_cons, PyData.depthAll, PyData.depth]; omega⟩
  unfold SeqAt.shaped
  rw [show PyData.canLay0 (.list (ns.map PyData.int)) = PyData.canLayAll0 (ns.map PyData.int) by simp [PyData.canLay0], h.1]
  have : (PyData.list (ns.map PyData.int)).depth ≤ 64 := by
    simp only [PyData.depth]
    omega
  simpa using this
theorem DA.key {H : Hp} {d : Addr} {ws : List (Key × V)} {s : Mp Str} (D0 : DA H d ws s) {i : Nat} {kk : Key} {v : V} (h : ws[i]? = some (kk, v)) : ∃ (n : Int) (a : Al Str) (t : Addr), kk = Sum.inl n ∧ s n = some a ∧ v = .ref t ∧ H t = some (.tup [.str a.name, .int a.val, optI a.step]) ∧ valV ws (Sum.inl n) = some v := by
  have hmem := List.mem_of_getElem? h
  obtain ⟨n, hn⟩ := D0.ks _ hmem
  have hn : kk = Sum.inl n := hn
  have hv := valV_mem D0.nd hmem
  rw [hn] at hv
  cases q : s n with
  | none =>
    rw [D0.no n q] at hv
    cases hv
  | some a =>
    obtain ⟨t, e1, e2⟩ := D0.yes n a q
    have hv' := hv
    rw [e1] at hv
    cases hv
    exact ⟨n, a, t, hn, q, rfl, e2, hv'⟩
theorem BAt.offK {CW CA CB : Addr} {H : Hp} {F : Addr → Prop} {A : BA} {S : Int} {L : Nat} {now tn many : Int} {m : Mp Str} {Wp : Int × Int → Prop} (b : BAt CW CA CB H F A S L now tn many m Wp) {D : Addr} {xs : List (Key × V)} {o : HO} (hD : H D = some (.dK xs)) (nD : ¬ F D) :
    BAt CW CA CB (upd H D o) F A S L now tn many m Wp := b.keep fun a o' e z => by
  have n : a ≠ D := fun q => by
    rcases z with z | ⟨ys, rfl⟩
    · exact nD (q ▸ z)
    · rw [q, hD] at e
      cases e
  rw [upd_ne n]
  exact e
theorem unlock_same {H H' : Hp} {d : Addr} {od : Obj} {u : HO} (hd : H d = some u) (s : Same (upd H d (.frz od u)) H') : Same H (upd H' d u) := fun b o e => by
  by_cases z : b = d
  · rw [z] at e ⊢
    rw [upd_same]
    rw [hd] at e
    exact e
  · rw [upd_ne z]
    refine s b o ?_
    rw [upd_ne z]
    exact e
end L2.TK
set_option Elab.async false
set_option linter.all false
set_option maxRecDepth 100000
set_option maxHeartbeats 8000000
namespace L2.TK
open PySem TkM
abbrev nmDeed : List Str := ["_law_script", "_law_k", "_law_world", "_law_number", "_law_word", "_law_ticks_here", "_law_rings", "_law_step", "_law_at", "_law_one"]
def StB (m : Mp Str) : Prop := ∀ n a s, m n = some a → a.step = some s → 1 ≤ s ∧ s < 2 ^ 60
/-- a name that is no word of the law's -/
def NmG (s : Str) : Prop := PyData.strOk s = true ∧ s ≠ "wrong"
def GoodD (now : Int) (m : Mp Str) (d : Deed) : Prop := (∀ t, d = .pass t → 0 ≤ t → Few3 m (now + t)) ∧ ∀ due st nm, d = .set due st nm → NmG nm ∧ ∀ s, st = some s → s < 2 ^ 60
def spDeed (K : PySem.W.Frag) : Sp := fun vs H Q _ => ∃ (a x wa ra : Addr) (ns : List Int) (k S l now many : Int) (m : Mp Str), vs = [.ref a, .int k, .ref x] ∧ SqL K H a (ns.map V.int) ∧ ns.length ≤ 63 ∧ 2 ≤ S ∧ S ≤ 64 ∧ WO H x wa ra S l now many m ∧ 0 ≤ many ∧ many ≤ 900 ∧ StB m ∧ (∀ p, Wt m p → now < p.1) ∧
  ∀ (d : Deed) (p : Addr) (H' : Hp), GoodD now m d → Same H H' → H' p = some (.tup (deedV d)) → Q (.ref p) H'
theorem len_flat {A B : Type} {f : A → List B} {k : Nat} : ∀ {l : List A}, (∀ x ∈ l, (f x).length ≤ k) → (l.flatMap f).length ≤ l.length * k
  | [], _ => Nat.zero_le _
  | x :: l, h => by
    rw [List.flatMap_cons, List.length_append, List.length_cons, Nat.succ_mul]
    have h1 := h x List.mem_cons_self
    have h2 := len_flat (l := l) fun y hy => h y (List.mem_cons_of_mem _ hy)
    omega
/-- a short stretch -/
theorem few_short {m : Mp Str} {now many t : Int} (hb : ∀ n a, m n = some a → 0 ≤ n ∧ n < many) (hm : many ≤ 900) (hs : StB m) (ha : ∀ p, Wt m p → now < p.1) (ht : t < 30) : Few3 m (now + t) := fun l hn hl => by
  have e := nodup_sub l ((List.range 900).flatMap fun (n : Nat) => match m (n : Int) with
    | some a => (List.range 31).map fun (j : Nat) => (now + (j : Int), (n : Int), a.name)
    | none => []) hn fun y hy => by
      obtain ⟨⟨a, a1, a2, a3, a4⟩, h2⟩ := hl y hy
      obtain ⟨b1, b2⟩ := hb _ _ a1
      have h3 := hits_ge a4 fun s e => (hs _ _ s a1 e).1
      have h4 := ha (a.val, y.2.1) ⟨a, a1, a2, rfl⟩
      simp only at h4
      refine List.mem_flatMap.mpr ⟨y.2.1.toNat, List.mem_range.mpr (by omega), ?_⟩
      rw [Int.toNat_of_nonneg b1, a1]
      refine List.mem_map.mpr ⟨(y.1 - now).toNat, List.mem_range.mpr (by omega), ?_⟩
      rw [Int.toNat_of_nonneg (by omega)]
      refine Prod.ext (by show now + (y.1 - now) = y.1; omega) (Prod.ext rfl a3.symm)
  refine Nat.le_trans e (Nat.le_trans (len_flat (k := 31) fun n _ => ?_) (by rw [List.length_range]; decide))
  split
  · rw [List.length_map, List.length_range]
    exact Nat.le_refl _
  · exact Nat.zero_le _
/-- the rings of one alarm -/
def candA (t : Int) (n : Int) (a : Al Str) : List (Tr Str) := match a.step with
  | some s => (List.range (t / s + 1).toNat).map fun (j : Nat) => (a.val + (j : Int) * s, n, a.name)
  | none => [(a.val, n, a.name)]
theorem candA_mem {now t n : Int} {a : Al Str} (hs : ∀ s, a.step = some s → 1 ≤ s) (hn : now < a.val) {y : Tr Str} (h : Hits a y.1) (e1 : y.2.1 = n) (e2 : y.2.2 = a.name) (ht : y.1 ≤ now + t) : y ∈ candA t n a := by
  unfold candA
  unfold Hits at h
  cases es : a.step with
  | none =>
    rw [es] at h
    exact List.mem_singleton.mpr (Prod.ext h (Prod.ext e1 e2))
  | some s =>
    rw [es] at h
    obtain ⟨k, h⟩ := h
    have s1 := hs s es
    have h6 : (k : Int) ≤ t / s := (Int.le_ediv_iff_mul_le (by omega)).mpr (by omega)
    refine List.mem_map.mpr ⟨k, List.mem_range.mpr (by omega), Prod.ext h.symm (Prod.ext e1.symm e2.symm)⟩
section
variable {P : Program} {w : World} {K : PySem.W.Frag} {mg : Str → Option Value} {base : Heap} {CW CA CB CT CBad CPast CNot : Addr}
theorem scDeed : FnScope nmDeed ["_law_script", "_law_k", "_law_world"] (defScope s_law_deed) := ⟨rfl, rfl, rfl, by decide +kernel, rfl, by decide +kernel, by decide +kernel⟩
theorem ok_Deed {f : Addr} {fd : FuncData} (F : Fun K "_law_deed" "_law_deed" s_law_deed f fd) (iSum : mg "sum" = none) (iI : mg "int" = none) (iM : mg "max" = none) (GX : GFn P w K mg base CX0 2 "_law_mix" ["_law_script", "_law_k"] (spMix K)) (GTk : GFn P w K mg base CX0 3 "_law_ticks" ["_law_script", "_law_k", "_law_world"] (spLT K)) :
    FnOk P w K mg base CX0 4 f fd ["_law_script", "_law_k", "_law_world"] (spDeed K) := by
  obtain ⟨fX, fdX, gX, kX, bX, GX⟩ := GX
  obtain ⟨fTk, fdTk, gTk, kTk, bTk, GTk⟩ := GTk
  refine F.ok scDeed (fun vs H Q E h => ?_) (fun cdv A outer s H vs Q E hr h => ?_)
  · obtain ⟨a, x, wa, ra, ns, k, S, l, now, many, m, rfl, _⟩ := h
    rfl
  · obtain ⟨a, x, wa, ra, ns, k, S, l, now, many, m, rfl, hS, hl, g1, g2, W, hm0, hm, hst, ahead, q⟩ := h
    have hr2 : Room 2 _ := hr.mono (by decide)
    have hr3 : Room 3 _ := hr
    have hu := hu_of hr
    refine ⟨_, (pss_cons (ps_set (i := 3) scDeed.nd rfl (Or.inl rfl) (pe_call GX hr2 rfl gX kX bX .nil pass0 (pa_cons (pv 0) (pa_cons (pv 1) pa_nil))))
      (pss_cons (ps_set (i := 4) scDeed.nd rfl (Or.inl rfl) (pe_ix ix_list (pe_lst (pa_cons pe_str (pa_cons pe_str (pa_cons pe_str (pa_cons pe_str (pa_cons pe_str (pa_cons pe_str (pa_cons pe_str (pa_cons pe_str (pa_cons pe_str (pa_cons pe_str (pa_cons pe_str pa_nil)))))))))))) (pe_op op_modN (pv 3) pe_int) (fun _ _ => rfl)))
      (pss_cons (ps_set (i := 5) scDeed.nd rfl (Or.inr rfl) (pe_call GTk hr3 rfl gTk kTk bTk .nil pass0 (pa_cons (pv 0) (pa_cons (pe_op op_add (pv 1) pe_int) (pa_cons (pv 2) pa_nil)))))
      (pss_cons (ps_if (pt_cmpR op_eq (pv 4) pe_str (nomark _)) (pss_cons (ps_set (i := 6) scDeed.nd rfl (Or.inl rfl) (pe_callB (cr_sum rfl) (by rfl) iSum (by decide +kernel) (pa_cons (pe_lock (pe_lc (own := [("_law_one", 9)]) (g := gName 9) (tt := tB (tNotN (tOp (rIxT K) (tVar 9) (tC (.int 2))))) (te := tOp (rI CDivW fun i j => .int (i / j)) (tVar 5) (tOp (rIxT K) (tVar 9) (tC (.int 2)))) rfl scDeed.nd (pi_values (pe_dget hu (pv 2) pe_str (fun _ _ => rfl)))
 (blkOk_by (own := [("_law_one", 9)]) (N := nmDeed) (sc := defScope s_law_deed) (by decide +kernel)) (fun _ _ _ _ _ => pg_name (i := 9) scDeed.nd rfl (Or.inl rfl)) (fun _ _ _ _ _ => pts_one (pt_cmp (pc_notN (pe_ix (r := rIxT K) ix_tup (pv 9) pe_int (fun _ _ => rfl)))))
 (fun _ _ _ _ _ => pe_op op_fdivW (pv 5) (pe_ix (r := rIxT K) ix_tup (pv 9) pe_int (fun _ _ => rfl))))) pa_nil)))
      (C8.pss_cut (ps_if (pt_cmpR op_gt (pv 6) pe_int (nomark _)) (pss_one (ps_set (i := 5) scDeed.nd rfl (Or.inr rfl) (pe_op op_modN (pv 5) pe_int))) pss_nil)
      (pss_one (ps_ret (pe_tup (pa_cons (pv 4) (pa_cons (pe_op op_sub (pv 5) (pe_op op_mul (pe_callTy call_int1 (by rfl) iI (by decide +kernel) (pa_cons (pe_cmpR op_eq (pe_op op_modN (pe_op op_fdivW (pv 3) pe_int) pe_int) pe_int (nomark _)) pa_nil)) (pe_op op_add (pv 5) pe_int))) (pa_cons pe_non (pa_cons pe_str pa_nil))))))))) pss_nil)
      (pss_cons (ps_if (pt_cmpR op_eq (pv 4) pe_str (nomark _)) (pss_cons (ps_set (i := 7) scDeed.nd rfl (Or.inl rfl) pe_non)
      (C8.pss_cut (ps_if (pt_cmpR op_eq (pe_op op_modN (pe_op op_fdivW (pv 3) pe_int) pe_int) pe_int (nomark _)) (pss_one (ps_set (i := 7) scDeed.nd rfl (Or.inl rfl) (pe_ix ix_list (pe_lst (pa_cons pe_int (pa_cons pe_int (pa_cons pe_int (pa_cons pe_int (pa_cons pe_int (pa_cons (pv 5) pa_nil))))))) (pe_op op_modN (pe_op op_fdivW (pv 3) pe_int) pe_int) (fun _ _ => rfl)))) pss_nil)
      (pss_one (ps_ret (pe_tup (pa_cons (pv 4) (pa_cons (pe_op op_add (pe_dget hu (pv 2) pe_str (fun _ _ => rfl)) (pv 5)) (pa_cons (pv 7) (pa_cons (pe_ix ix_list (pe_lst (pa_cons pe_str (pa_cons pe_str (pa_cons pe_str pa_nil)))) (pe_op op_modN (pe_op op_fdivW (pv 3) pe_int) pe_int) (fun _ _ => rfl)) pa_nil))))))))) pss_nil)
      (pss_cons (ps_set (i := 8) scDeed.nd rfl (Or.inl rfl) (pe_op op_sub (pe_op op_modN (pe_op op_fdivW (pv 3) pe_int) (pe_callB (call_max2 rfl) (by rfl) iM (by decide +kernel) (pa_cons pe_int (pa_cons (pe_op op_add (pe_dget hu (pv 2) pe_str (fun _ _ => rfl)) pe_int) pa_nil)))) (pe_op op_fdivW (pe_op op_modN (pe_op op_fdivW (pv 3) pe_int) pe_int) pe_int)))
      (pss_one (ps_ret (pe_tup (pa_cons (pv 4) (pa_cons (pv 8) (pa_cons (pe_op op_sub (pe_op op_add (pe_dget hu (pv 2) pe_str (fun _ _ => rfl)) (pv 5)) (pe_op op_fdivW (pe_op op_modN (pe_op op_fdivW (pv 3) pe_int) pe_int) pe_int)) (pa_cons pe_str pa_nil))))))))))))), ?_⟩
    refine ⟨_, rfl, _, rfl, a, ns, k, rfl, hS, hl, fun v v0 _ => ?_⟩
    refine ⟨Nat.le_of_lt (small1000 (by show 11 ≤ 1000; decide)), fun p1 hp1 => ?_⟩
    obtain ⟨wd, a1, hwd⟩ := at_mod (xs := [V.str "set", V.str "set", V.str "set", V.str "pass", V.str "pass", V.str "move", V.str "back", V.str "rest", V.str "on", V.str "set", V.str "on"]) (v := v) (n := 11) rfl (by decide)
    refine ⟨_, rfl, _, _, rfl, rfl, nz (by decide), p1, _, _, _, rfl, rfl, SqL.of upd_same, a1, ?_⟩
    have s1 := Same.new (o := .lst [V.str "set", V.str "set", V.str "set", V.str "pass", V.str "pass", V.str "move", V.str "back", V.str "rest", V.str "on", V.str "set", V.str "on"]) hp1
    have W1 := W.same s1
    refine ⟨_, rfl, _, rfl, _, _, rfl, rfl, _, rfl, a, x, ns, _, S, l, now, many, wa, ra, rfl, sqKeep hS s1, hl, g1, g2, W1.ob, fun t H2 t0 t1 s2 => ?_⟩
    have W2 := W1.same s2
    have s12 := s1.trans s2
    have hwd' : (∃ (t : Unit), wd = V.str "pass") ∨ wd = V.str "set" ∨ ∃ wo : Str, wd = V.str wo ∧ wo ≠ "pass" ∧ wo ≠ "set" ∧ ∀ n due, ∃ d : Deed, deedV d = [.str wo, .int n, .int due, .str ""] ∧ GoodD now m d := by
      simp only [List.mem_cons, List.not_mem_nil, or_false] at hwd
      rcases hwd with h | h | h | h | h | h | h | h | h | h | h
      · exact .inr (.inl h)
      · exact .inr (.inl h)
      · exact .inr (.inl h)
      · exact .inl ⟨(), h⟩
      · exact .inl ⟨(), h⟩
      · exact .inr (.inr ⟨_, h, by decide +kernel, by decide +kernel, fun n due => ⟨.move n due, rfl, ⟨fun t z => (by cases z), fun _ _ _ z => (by cases z)⟩⟩⟩)
      · exact .inr (.inr ⟨_, h, by decide +kernel, by decide +kernel, fun n due => ⟨.back n due, rfl, ⟨fun t z => (by cases z), fun _ _ _ z => (by cases z)⟩⟩⟩)
      · exact .inr (.inr ⟨_, h, by decide +kernel, by decide +kernel, fun n due => ⟨.rest n due, rfl, ⟨fun t z => (by cases z), fun _ _ _ z => (by cases z)⟩⟩⟩)
      · exact .inr (.inr ⟨_, h, by decide +kernel, by decide +kernel, fun n due => ⟨.on n due, rfl, ⟨fun t z => (by cases z), fun _ _ _ z => (by cases z)⟩⟩⟩)
      · exact .inr (.inl h)
      · exact .inr (.inr ⟨_, h, by decide +kernel, by decide +kernel, fun n due => ⟨.on n due, rfl, ⟨fun t z => (by cases z), fun _ _ _ z => (by cases z)⟩⟩⟩)
    rcases hwd' with ⟨_, rfl⟩ | rfl | ⟨wo, rfl, w1, w2, hd⟩
    · refine ⟨_, rfl, rfl, _, rfl, ifT rfl ?_⟩
      obtain ⟨ws, D2⟩ := W2.w
      have hz := D2.size (fun n a h => W2.bd n a (of_sel h).1) (by omega)
      refine ⟨wa, _, D2.at_, trivial, fun od => ?_⟩
      have ew : upd H2 wa (.frz od (.dK ws)) wa = some (.frz od (.dK ws)) := upd_same
      have ex : upd H2 wa (.frz od (.dK ws)) x = some (.dK (wkv S l now many wa ra)) := by
        rw [upd_ne W2.n1]
        exact W2.ob
      have tk := upd_tupK (o := .frz od (.dK ws)) D2.at_
      have ul : ∀ H', Same (upd H2 wa (.frz od (.dK ws))) H' → Same H2 (upd H' wa (.dK ws)) := fun H' z => unlock_same D2.at_ z
      generalize upd H2 wa (.frz od (.dK ws)) = HF at ew ex tk ul ⊢
      refine ⟨_, rfl, x, _, rfl, by rw [← wkv_waits]; exact DGet.k (k := Sum.inr "waits") ex, wa, od, ws, rfl, ew, fun D hD => ?_⟩
      have nD : D ≠ wa := fun z => by
        rw [z, ew] at hD
        cases hD
      refine lc_it walk_values (fun j H' => Same HF H' ∧ ∃ (vals : List Int) (C : List (Tr Str)), H' D = some (.lst (vals.map V.int)) ∧ vals.length ≤ j ∧ j ≤ 1000 ∧ (C.length : Int) ≤ vals.sum + j ∧ ∀ (i : Nat) (n : Int) (v : V) (a : Al Str), i < j → ws[i]? = some (Sum.inl n, v) → m n = some a → ∀ y ∈ candA t n a, y ∈ C)
        ⟨Same.new hD, [], [], upd_same, Nat.le_refl _, by decide, by decide, fun i _ _ _ h => absurd h (Nat.not_lt_zero i)⟩ (fun j H' _ h => h.1 _ _ ew) ?_ ?_
      · rintro j y H' HH hj ⟨s', vals, C, e1, hl1, hj1, hC, hc⟩ ⟨rfl, kk, e⟩
        obtain ⟨n, b, tt, rfl, hs, rfl, ht, hv⟩ := D2.key e
        obtain ⟨hmn, har⟩ := of_sel hs
        have cov : ∀ (i : Nat) (n' : Int) (v' : V) (b' : Al Str), i < j + 1 → ws[i]? = some (Sum.inl n', v') → m n' = some b' → ∀ y ∈ candA t n' b', y ∈ C ++ candA t n b := fun i n' v' b' hi hi2 hb' y hy => by
          by_cases c : i < j
          · exact List.mem_append.mpr (.inl (hc i n' v' b' c hi2 hb' y hy))
          · have : i = j := by omega
            subst this
            rw [e] at hi2
            cases hi2
            rw [hmn] at hb'
            cases hb'
            exact List.mem_append.mpr (.inr hy)
        refine ⟨rfl, ?_⟩
        refine ⟨_, rfl, tt, _, _, _, rfl, rfl, SqT.of (s' _ _ (tk _ _ ht)), at_of (j := 2) rfl rfl, _, rfl, ?_⟩
        cases es : b.step with
        | none =>
          refine iteF ⟨s', vals, C ++ candA t n b, e1, by omega, by omega, ?_, cov⟩
          have : (candA t n b).length = 1 := by
            unfold candA
            rw [es]
            rfl
          rw [List.length_append]
          omega
        | some sp =>
          obtain ⟨g3, g4⟩ := hst n b sp hmn es
          have q0 : 0 ≤ t / sp := Int.ediv_nonneg t0 (by omega)
          refine iteT ⟨_, rfl, _, rfl, tt, _, _, _, rfl, rfl, SqT.of (s' _ _ (tk _ _ ht)), at_of (j := 2) rfl (by rw [es]; rfl), _, _, rfl, rfl, wdiv (by omega) g4, ?_⟩
          refine ⟨_, e1, small1000 (by rw [List.length_map]; omega), fun b' o e2 => ?_, vals ++ [t / sp], C ++ candA t n b, by rw [upd_same, List.map_append]; rfl, by rw [List.length_append, List.length_singleton]; omega, by omega, ?_, cov⟩
          · rw [upd_ne (ne_of_none e2 hD)]
            exact s' _ _ e2
          · have : (candA t n b).length = (t / sp + 1).toNat := by
              unfold candA
              rw [es]
              show (List.map _ _).length = _
              rw [List.length_map, List.length_range]
            rw [List.length_append, List.sum_append]
            simp only [List.sum_cons, List.sum_nil]
            omega
      rintro HE ⟨se, vals, C, e1, hl1, _, hC, hc⟩
      refine ⟨se _ _ ew, ?_⟩
      have sl := ul HE se
      have W3 := W2.same sl
      have s13 := s12.trans sl
      have e7 : upd HE wa (.dK ws) D = some (.lst (vals.map V.int)) := by
        rw [upd_ne nD]
        exact e1
      generalize upd HE wa (.dK ws) = H3 at sl W3 s13 e7 ⊢
      refine ⟨D, vals, rfl, SqL.of e7, ?_⟩
      refine ⟨fun sg H' => ∃ (t' : Int) (v6 : Option V), 0 ≤ t' ∧ Few3 m (now + t') ∧ sg = [some (.ref a), some (.int k), some (.ref x), some (.int v), some (.str "pass"), some (.int t'), v6, none, none, none] ∧ Same H H', ?_, ?_⟩
      · refine ⟨_, rfl, _, _, rfl, rfl, _, rfl, if2 (fun c => ⟨_, rfl, _, _, rfl, rfl, nz (by decide), t.fmod 30, _, ?_, ?_, rfl, s13⟩) (fun c => ⟨t, _, t0, fun ls hn hx => ?_, rfl, s13⟩)⟩
        · rw [fmodP (by decide)]
          omega
        · exact few_short (fun n a h => W.bd n a h) hm hst ahead (by rw [fmodP (by decide)]; omega)
        · have h1 := nodup_sub ls C hn fun y hy => by
            obtain ⟨⟨b, b1, b2, b3, b4⟩, h2⟩ := hx y hy
            obtain ⟨tt, q1, _⟩ := D2.yes y.2.1 b (by rw [sel_some b1, if_pos b2])
            obtain ⟨i, hi⟩ := List.getElem?_of_mem (mem_valV q1)
            exact hc i y.2.1 _ b (List.getElem?_eq_some_iff.mp hi).1 hi b1 y (candA_mem (now := now) (fun s e => (hst _ _ s b1 e).1) (ahead (b.val, y.2.1) ⟨b, b1, b2, rfl⟩) b4 rfl b3 h2)
          have c : ¬ vals.sum > 60 := c
          omega
      · rintro sg H4 ⟨t', v6, ht0, few, rfl, s4⟩
        refine ⟨_, rfl, _, rfl, _, rfl, _, _, rfl, rfl, wdiv (by decide) (by decide), _, _, rfl, rfl, nz (by decide), rfl, .inr ⟨_, rfl, _, rfl, _, _, rfl, rfl, _, _, rfl, rfl, ?_, _, _, rfl, rfl, (by show 4 ≤ sizeLine; decide), fun p hp => ?_⟩⟩
        · split <;> exact .inl (by decide)
        · refine q (.pass _) p _ ⟨fun t2 e h2 => ?_, fun _ _ _ z => (by cases z)⟩ (s4.trans (Same.new hp)) upd_same
          cases e
          by_cases c : decide (V.int ((v / 11).fmod 24) = V.int 0) = true
          · exfalso
            rw [if_pos c] at h2
            omega
          · rw [if_neg c] at h2 ⊢
            rw [show t' - 0 * (t' + 1) = t' by omega]
            exact few
    · refine ⟨_, rfl, rfl, _, rfl, ifF (by decide +kernel) ?_⟩
      refine ⟨_, rfl, rfl, _, rfl, ifT rfl ?_⟩
      refine ⟨fun sg H' => ∃ (st : Option Int), (∀ s, st = some s → s < 2 ^ 60) ∧ sg = [some (.ref a), some (.int k), some (.ref x), some (.int v), some (.str "set"), some (.int t), none, some (optI st), none, none] ∧ Same H2 H', ?_, ?_⟩
      · refine ⟨_, rfl, _, _, rfl, rfl, wdiv (by decide) (by decide), _, _, rfl, rfl, nz (by decide), rfl, _, rfl, if2 (fun c => ?_) (fun c => ⟨none, fun s z => (by cases z), rfl, Same.refl _⟩)⟩
        refine ⟨_, rfl, Nat.le_of_lt (small1000 (by show 6 ≤ 1000; decide)), fun p3 hp3 => ?_⟩
        obtain ⟨i, hi, a3⟩ := at_modI (is := [1, 2, 3, 7, 0, t]) (v := v / 44) (n := 6) rfl (by decide)
        refine ⟨_, rfl, _, _, rfl, rfl, wdiv (by decide) (by decide), _, _, rfl, rfl, nz (by decide), p3, _, _, _, rfl, rfl, SqL.of upd_same, a3, some i, fun s z => ?_, rfl, Same.new hp3⟩
        cases z
        simp only [List.mem_cons, List.not_mem_nil, or_false] at hi
        omega
      · rintro sg H3 ⟨st, hstp, rfl, s3⟩
        have W3 := W2.same s3
        refine ⟨_, rfl, _, rfl, x, _, rfl, by rw [← wkv_now]; exact DGet.k (k := Sum.inr "now") W3.ob, _, rfl, _, _, rfl, rfl, _, rfl, Nat.le_of_lt (small1000 (by show 3 ≤ 1000; decide)), fun p4 hp4 => ?_⟩
        obtain ⟨nm, a4, hnm⟩ := at_mod (xs := [V.str "a", V.str "", V.str "b c"]) (v := v / 264) (n := 3) rfl (by decide)
        obtain ⟨nm', rfl, hnm'⟩ : ∃ nm' : Str, nm = V.str nm' ∧ NmG nm' := by
          simp only [List.mem_cons, List.not_mem_nil, or_false] at hnm
          rcases hnm with h | h | h <;> exact ⟨_, h, by decide +kernel, by decide +kernel⟩
        refine ⟨_, rfl, _, _, rfl, rfl, wdiv (by decide) (by decide), _, _, rfl, rfl, nz (by decide), p4, _, _, _, rfl, rfl, SqL.of upd_same, a4, (by show 4 ≤ sizeLine; decide), fun p hp => ?_⟩
        refine q (.set _ st nm') p _ ⟨fun t2 e => (by cases e), fun due st' nm2 e => ?_⟩ (((s12.trans s3).trans (Same.new hp4)).trans (Same.new hp)) upd_same
        cases e
        exact ⟨hnm', hstp⟩
    · refine ⟨_, rfl, rfl, _, rfl, ifF (fun z => w1 (V.str.inj z)) ?_⟩
      refine ⟨_, rfl, rfl, _, rfl, ifF (fun z => w2 (V.str.inj z)) ?_⟩
      have mx : 0 < (if many + 1 > 1 then many + 1 else (1 : Int)) ∧ (if many + 1 > 1 then many + 1 else (1 : Int)) ≤ 1000 := by
        split <;> omega
      refine ⟨_, rfl, _, _, rfl, rfl, wdiv (by decide) (by decide), _, rfl, x, _, rfl, by rw [← wkv_many]; exact DGet.k (k := Sum.inr "many") W2.ob, _, _, rfl, rfl, _, _, rfl, ?_⟩
      refine ⟨_, _, rfl, rfl, nz (by omega), _, rfl, _, _, rfl, rfl, wdiv (by decide) (by decide), _, _, rfl, rfl, nz (by decide), _, _, rfl, rfl, wdiv (by decide) (by decide), _, _, rfl, rfl, ?_⟩
      refine ⟨_, rfl, _, rfl, _, rfl, x, _, rfl, by rw [← wkv_now]; exact DGet.k (k := Sum.inr "now") W2.ob, _, rfl, _, _, rfl, rfl, _, rfl, _, _, rfl, rfl, wdiv (by decide) (by decide), _, _, rfl, rfl, nz (by decide), _, _, rfl, rfl, wdiv (by decide) (by decide), _, _, rfl, rfl, (by show 4 ≤ sizeLine; decide), fun p hp => ?_⟩
      obtain ⟨d, hd1, hd2⟩ := hd _ _
      refine q d p _ hd2 (s12.trans (Same.new hp)) ?_
      rw [hd1]
      exact upd_same
end
end L2.TK
set_option Elab.async false
set_option linter.all false
set_option maxRecDepth 100000
set_option maxHeartbeats 2000000
/-! A dict whose keys are values of unlike kinds (None beside tuples): looking up, setting what is not there. -/
namespace L2.TK
open PySem PySem.Spec PyProof.Rows
/-- a key, the value that is this key, what is kept there -/
abbrev MEnt := NestedKey × Value × Value
def mcell (w : World) (x : MEnt) : DictEntry := ⟨x.1.hash w, x.2.1, x.2.2⟩
def mcells (w : World) (xs : List MEnt) : Array DictEntry := (xs.map (mcell w)).toArray
/-- the dict at d has the entries xs -/
def MRaw (w : World) (h : Heap) (d : Addr) (xs : List MEnt) : Prop := ∃ o ep, h.get? d = some o ∧ o.ExactDict ∧ o.data = .dict (mcells w xs) ep
/-- a value that is the key k -/
def MKey (h : Heap) (k : NestedKey) (v : Value) : Prop := NestedIs h k v ∧ k.depth ≤ 8
/-- the entries' keys are keys, each once -/
structure MKeys (h : Heap) (xs : List MEnt) : Prop where
  is : ∀ x ∈ xs, MKey h x.1 x.2.1
  nd : (xs.map (·.1)).Nodup
/-- what is kept at the key k -/
def mlook (xs : List MEnt) (k : NestedKey) : Option Value := (xs.find? fun x => decide (x.1 = k)).map (·.2.2)
theorem mcells_size {w : World} {xs : List MEnt} : (mcells w xs).size = xs.length := by simp [mcells]
theorem mcells_at {w : World} {xs : List MEnt} {i : Nat} : (mcells w xs)[i]? = xs[i]?.map (mcell w) := by simp [mcells]
theorem mlook_at : ∀ {xs : List MEnt} {i : Nat} {x : MEnt}, (xs.map (·.1)).Nodup → xs[i]? = some x → mlook xs x.1 = some x.2.2
  | [], _, _, _, h => by simp at h
  | y :: xs, 0, x, _, h => by
    have e : y = x := by simpa using h
    subst e
    simp [mlook]
  | y :: xs, i + 1, x, nd, h => by
    have h : xs[i]? = some x := by simpa using h
    obtain ⟨n1, n2⟩ := List.nodup_cons.mp (show (y.1 :: xs.map (·.1)).Nodup from nd)
    have ne : ¬ y.1 = x.1 := fun e => n1 (List.mem_map.mpr ⟨x, List.mem_of_getElem? h, e.symm⟩)
    have ih := mlook_at n2 h
    simpa [mlook, ne] using ih
theorem mlook_no {xs : List MEnt} {k : NestedKey} (h : ∀ (i : Nat) (x : MEnt), xs[i]? = some x → x.1 ≠ k) : mlook xs k = none := by
  have : (xs.find? fun x => decide (x.1 = k)) = none := by
    rw [List.find?_eq_none]
    intro x hx e
    obtain ⟨i, hi⟩ := List.mem_iff_getElem?.mp hx
    exact h i x hi (of_decide_eq_true e)
  rw [mlook, this]
  rfl
theorem m_same {xs : List MEnt} (nd : (xs.map (·.1)).Nodup) {i j : Nat} {x y : MEnt} (hi : xs[i]? = some x) (hj : xs[j]? = some y) (e : x.1 = y.1) : i = j := by
  have a : (xs.map (·.1))[i]? = some x.1 := by rw [List.getElem?_map, hi]; rfl
  have b : (xs.map (·.1))[j]? = some x.1 := by rw [List.getElem?_map, hj, e]; rfl
  exact (List.getElem?_inj (List.getElem?_eq_some_iff.mp a).1 nd).mp (a.trans b.symm)
/-- the places at which an entry of this hash stands -/
abbrev mplaces (w : World) (xs : List MEnt) (k : NestedKey) : List Nat := placesWithHash (mcells w xs).size (fun i => (mcells w xs)[i]?.map (·.hash)) (k.hash w)
theorem mem_places {w : World} {xs : List MEnt} {k : NestedKey} {i : Nat} : i ∈ mplaces w xs k ↔ ∃ x, xs[i]? = some x ∧ x.1.hash w = k.hash w := by
  unfold mplaces placesWithHash
  rw [List.mem_filter, List.mem_range, mcells_size]
  show i < xs.length ∧ ((mcells w xs)[i]?.map (·.hash) == some (k.hash w)) = true ↔ _
  rw [mcells_at]
  constructor
  · rintro ⟨h1, h2⟩
    refine ⟨xs[i], List.getElem?_eq_getElem h1, ?_⟩
    rw [List.getElem?_eq_getElem h1] at h2
    simpa [mcell] using h2
  · rintro ⟨x, h1, h2⟩
    refine ⟨(List.getElem?_eq_some_iff.mp h1).1, ?_⟩
    rw [h1]
    simp [mcell, h2]
theorem places_nd {w : World} {xs : List MEnt} {k : NestedKey} : (mplaces w xs k).Nodup := List.filter_sublist.nodup List.nodup_range
/-- what stands there -/
abbrev mstored (w : World) (xs : List MEnt) (k : NestedKey) : List Value := (mplaces w xs k).filterMap fun i => (mcells w xs)[i]?.map (·.key)
theorem mem_stored {w : World} {xs : List MEnt} {k : NestedKey} {v : Value} (h : v ∈ mstored w xs k) : ∃ x ∈ xs, v = x.2.1 := by
  obtain ⟨i, _, e⟩ := List.mem_filterMap.mp h
  rw [mcells_at] at e
  cases q : xs[i]? with
  | none => rw [q] at e; cases e
  | some x =>
    rw [q] at e
    exact ⟨x, List.mem_of_getElem? q, (Option.some.inj e).symm⟩
section
variable {prog : Program} {w : World} {A : Around} {E : Value → Shared → Prop} {s : Shared}
theorem m_tells {key : Value} {k : NestedKey} {l : List Value} {Q : Bool → Shared → Prop} (hk : MKey s.heap k key) (hl : ∀ v ∈ l, ∃ j, MKey s.heap j v) (h : Q false s) : wpAny (model prog w) A (tableMayTell key l) Q E s := by
  have ask : ∀ v, (∃ j, MKey s.heap j v) → ∀ Q' : Bool → Shared → Prop, Q' true s → wpAny (model prog w) A (eqIsQuiet 8 v) Q' E s := fun v ⟨j, a, b⟩ Q' q => quiet_key j v 8 s a b A E Q' q
  unfold tableMayTell
  by_cases he : l.isEmpty = true
  · rw [if_pos he]
    exact wpAny_pure h
  rw [if_neg he]
  refine wpAny_bind (ask key ⟨k, hk⟩ _ ?_)
  refine wpAny_bind ?_
  refine wpAny_forIn_list _ (fun rest r s' => (∀ v, v ∈ rest → ∃ j, MKey s.heap j v) ∧ r = (none, ()) ∧ s' = s) _ ?_ ?_ _ _ ⟨hl, rfl, rfl⟩
  · rintro v rest r s' ⟨hr, rfl, rfl⟩
    refine wpAny_bind (ask v (hr v List.mem_cons_self) _ ?_)
    exact wpAny_pure ⟨fun u hu => hr u (List.mem_cons_of_mem _ hu), rfl, rfl⟩
  · rintro r s' ⟨_, rfl, rfl⟩
    exact wpAny_pure h
/-- between two places -/
def MHit (xs : List MEnt) (k : NestedKey) (seen : List Nat) (hit : Option Nat) : Prop :=
  (hit = none ∧ ∀ i ∈ seen, ∀ x : MEnt, xs[i]? = some x → x.1 ≠ k) ∨ ∃ i x, hit = some i ∧ i ∈ seen ∧ xs[i]? = some x ∧ x.1 = k
theorem MHit.step {xs : List MEnt} {k : NestedKey} {seen : List Nat} {hit : Option Nat} (h : MHit xs k seen hit) {i : Nat} {x : MEnt} (hx : xs[i]? = some x) (ne : x.1 ≠ k) : MHit xs k (seen ++ [i]) hit := by
  rcases h with ⟨e, h⟩ | ⟨j, y, e, h1, h2, h3⟩
  · refine .inl ⟨e, fun j hj y hy => ?_⟩
    rcases List.mem_append.mp hj with hj | hj
    · exact h j hj y hy
    · rw [List.mem_singleton.mp hj, hx] at hy
      cases hy
      exact ne
  · exact .inr ⟨j, y, e, List.mem_append_left _ h1, h2, h3⟩
theorem MHit.fin {w : World} {xs : List MEnt} {k : NestedKey} (h : MHit xs k (mplaces w xs k) none) : ∀ (i : Nat) (x : MEnt), xs[i]? = some x → x.1 ≠ k := fun i x hx e => by
  rcases h with ⟨_, h⟩ | ⟨j, y, z, _⟩
  · exact h i (mem_places.mpr ⟨x, hx, by rw [e]⟩) x hx e
  · cases z
theorem m_find {d : Addr} {key : Value} {k : NestedKey} {xs : List MEnt} {Q : Option Nat → Shared → Prop} (hu : A.units + 8 < cLine) (hk : MKey s.heap k key) (sort : key = .none ∨ ∃ a, key = .ref a) (hm : MRaw w s.heap d xs) (ks : MKeys s.heap xs)
    (hno : (∀ (i : Nat) (x : MEnt), xs[i]? = some x → x.1 ≠ k) → Q none s) (hyes : ∀ i x, xs[i]? = some x → x.1 = k → Q (some i) s) : wpAny (model prog w) A (dictFind d key (k.hash w)) Q E s := by
  obtain ⟨o, ep, ho, _, hd⟩ := hm
  have same : ∀ (x : MEnt), x ∈ xs → ∀ Q' : Bool → Shared → Prop, Q' (decide (x.1 = k)) s → wpAny (model prog w) A (eqBool x.2.1 key) Q' E s := fun x hx Q' q => by
    obtain ⟨a1, a2⟩ := ks.is x hx
    refine eqAt_key x.1 k A s x.2.1 key a1 hk.1 (by omega) prog w E Q' ?_
    rw [← NestedKey.decide_eq]
    exact q
  have hst : ∀ v ∈ mstored w xs k, ∃ j, MKey s.heap j v := fun v hv => by
    obtain ⟨x, hx, rfl⟩ := mem_stored hv
    exact ⟨_, ks.is x hx⟩
  have nd := places_nd (w := w) (xs := xs) (k := k)
  -- a place seen before has another key
  have alone : ∀ (seen rest : List Nat) (i j : Nat) (x y : MEnt), mplaces w xs k = seen ++ i :: rest → xs[i]? = some x → x.1 = k → j ∈ seen → xs[j]? = some y → y.1 = k → False := fun seen rest i j x y hp hx ex hj hy ey => by
    have e := m_same ks.nd hx hy (ex.trans ey.symm)
    rw [hp, List.nodup_append] at nd
    exact nd.2.2 j hj i List.mem_cons_self e.symm
  have plain : wpAny (model prog w) A (dictWalkPlain d key (k.hash w) (mcells w xs) (mplaces w xs k)) Q E s := by
    unfold dictWalkPlain
    refine wpAny_bind ?_
    refine wpAny_forIn_list _ (fun rest b s' => s' = s ∧ b = (none, ()) ∧ ∃ seen, mplaces w xs k = seen ++ rest ∧ MHit xs k seen none) _ ?_ ?_ _ _ ⟨rfl, rfl, [], rfl, .inl ⟨rfl, fun i hi => nomatch hi⟩⟩
    · rintro i rest b s' ⟨rfl, rfl, seen, hp, hH⟩
      have hmem : i ∈ mplaces w xs k := by rw [hp]; simp
      obtain ⟨x, hx, hh⟩ := mem_places.mp hmem
      simp only [mcells_at, hx, Option.map_some]
      show wpAny _ _ (if (x.1.hash w == k.hash w) = true then _ else _) _ _ _
      rw [if_pos (by rw [hh]; simp)]
      refine wpAny_bind (wpAny_dictEpoch ho hd (wpAny_bind (same x (List.mem_of_getElem? hx) _ (wpAny_bind (wpAny_dictEpoch ho hd ?_)))))
      rw [if_neg (by simp)]
      by_cases e : x.1 = k
      · rw [decide_eq_true e, if_pos rfl]
        exact wpAny_bind (wpAny_rule (wpAny_pure (wpAny_pure (hyes i x hx e))))
      · rw [decide_eq_false e, if_neg Bool.false_ne_true]
        exact wpAny_bind (wpAny_rule (wpAny_pure ⟨rfl, rfl, seen ++ [i], by rw [hp]; simp, hH.step hx e⟩))
    · rintro b s' ⟨rfl, rfl, seen, hp, hH⟩
      rw [List.append_nil] at hp
      rw [← hp] at hH
      exact wpAny_pure (hno hH.fin)
  unfold dictFind
  refine wpAny_holding ?_
  refine wpAny_bind (wpAny_dictEntries ho hd ?_)
  have any : ∀ a : Addr, key = .ref a → ¬ ((mcells w xs).any fun e => e.key == Value.ref a && e.hash != k.hash w) = true := fun a ea z => by
    subst ea
    obtain ⟨i, hi, z⟩ := Array.any_eq_true.mp z
    have hi' : i < xs.length := by rw [← mcells_size (w := w)]; exact hi
    have e1 : (mcells w xs)[i] = mcell w xs[i] := by simp [mcells]
    rw [e1, Bool.and_eq_true] at z
    obtain ⟨z1, z2⟩ := z
    have z1 : xs[i].2.1 = .ref a := eq_of_beq z1
    have := (ks.is _ (List.getElem_mem hi')).1
    rw [z1] at this
    have e3 := NestedIs.inj _ _ _ this hk.1
    have z2 : (xs[i].1.hash w != k.hash w) = true := z2
    rw [e3] at z2
    simp at z2
  rcases sort with rfl | ⟨a, rfl⟩
  · dsimp only
    by_cases hall : ((Value.none :: mstored w xs k).all carriedByValue) = true
    · rw [if_pos hall]
      exact plain
    rw [if_neg hall]
    by_cases one : (mstored w xs k == [Value.none]) = true
    · rw [if_pos one]
      refine wpAny_bind (wpAny_pure ?_)
      rw [if_neg (by simp)]
      refine wpAny_bind ?_
      refine wpAny_forIn_list _ (fun rest b s' => s' = s ∧ ∃ hit seen, b = (none, hit) ∧ mplaces w xs k = seen ++ rest ∧ MHit xs k seen hit) _ ?_ ?_ _ _ ⟨rfl, none, [], rfl, rfl, .inl ⟨rfl, fun i hi => nomatch hi⟩⟩
      · rintro i rest b s' ⟨rfl, hit, seen, rfl, hp, hH⟩
        have hmem : i ∈ mplaces w xs k := by rw [hp]; simp
        obtain ⟨x, hx, hh⟩ := mem_places.mp hmem
        simp only [mcells_at, hx, Option.map_some]
        show wpAny _ _ (if (x.1.hash w == k.hash w) = true then _ else _) _ _ _
        rw [if_pos (by rw [hh]; simp)]
        refine wpAny_bind (wpAny_dictEpoch ho hd (wpAny_bind (same x (List.mem_of_getElem? hx) _ (wpAny_bind (wpAny_dictEpoch ho hd ?_)))))
        rw [if_neg (by simp)]
        by_cases e : x.1 = k
        · have hn : hit = none := by
            rcases hH with ⟨z, _⟩ | ⟨j, y, _, hj, hy, ey⟩
            · exact z
            · exact (alone seen rest i j x y hp hx e hj hy ey).elim
          subst hn
          rw [decide_eq_true e, if_pos rfl, if_neg (by simp)]
          refine wpAny_bind (wpAny_rule ?_)
          split
          · exact wpAny_pure (wpAny_pure (hyes i x hx e))
          · exact wpAny_pure ⟨rfl, some i, seen ++ [i], rfl, by rw [hp]; simp, .inr ⟨i, x, rfl, by simp, hx, e⟩⟩
        · rw [decide_eq_false e, if_neg Bool.false_ne_true]
          refine wpAny_bind (wpAny_rule ?_)
          rw [if_neg (by simp)]
          exact wpAny_pure ⟨rfl, hit, seen ++ [i], rfl, by rw [hp]; simp, hH.step hx e⟩
      · rintro b s' ⟨rfl, hit, seen, rfl, hp, hH⟩
        rw [List.append_nil] at hp
        rw [← hp] at hH
        cases hit with
        | none => exact wpAny_pure (hno hH.fin)
        | some j =>
          rcases hH with ⟨z, _⟩ | ⟨i, y, z, _, hy, ey⟩
          · cases z
          · cases z
            exact wpAny_pure (hyes j y hy ey)
    · rw [if_neg one]
      refine wpAny_bind (m_tells hk hst ?_)
      rw [if_neg (by simp)]
      refine wpAny_bind ?_
      refine wpAny_forIn_list _ (fun rest b s' => s' = s ∧ ∃ hit seen, b = (none, hit) ∧ mplaces w xs k = seen ++ rest ∧ MHit xs k seen hit) _ ?_ ?_ _ _ ⟨rfl, none, [], rfl, rfl, .inl ⟨rfl, fun i hi => nomatch hi⟩⟩
      · rintro i rest b s' ⟨rfl, hit, seen, rfl, hp, hH⟩
        have hmem : i ∈ mplaces w xs k := by rw [hp]; simp
        obtain ⟨x, hx, hh⟩ := mem_places.mp hmem
        simp only [mcells_at, hx, Option.map_some]
        show wpAny _ _ (if (x.1.hash w == k.hash w) = true then _ else _) _ _ _
        rw [if_pos (by rw [hh]; simp)]
        refine wpAny_bind (wpAny_dictEpoch ho hd (wpAny_bind (same x (List.mem_of_getElem? hx) _ (wpAny_bind (wpAny_dictEpoch ho hd ?_)))))
        rw [if_neg (by simp)]
        by_cases e : x.1 = k
        · have hn : hit = none := by
            rcases hH with ⟨z, _⟩ | ⟨j, y, _, hj, hy, ey⟩
            · exact z
            · exact (alone seen rest i j x y hp hx e hj hy ey).elim
          subst hn
          rw [decide_eq_true e, if_pos rfl, if_neg (by simp)]
          refine wpAny_bind (wpAny_rule ?_)
          split
          · exact wpAny_pure (wpAny_pure (hyes i x hx e))
          · exact wpAny_pure ⟨rfl, some i, seen ++ [i], rfl, by rw [hp]; simp, .inr ⟨i, x, rfl, by simp, hx, e⟩⟩
        · rw [decide_eq_false e, if_neg Bool.false_ne_true]
          refine wpAny_bind (wpAny_rule ?_)
          rw [if_neg (by simp)]
          exact wpAny_pure ⟨rfl, hit, seen ++ [i], rfl, by rw [hp]; simp, hH.step hx e⟩
      · rintro b s' ⟨rfl, hit, seen, rfl, hp, hH⟩
        rw [List.append_nil] at hp
        rw [← hp] at hH
        cases hit with
        | none => exact wpAny_pure (hno hH.fin)
        | some j =>
          rcases hH with ⟨z, _⟩ | ⟨i, y, z, _, hy, ey⟩
          · cases z
          · cases z
            exact wpAny_pure (hyes j y hy ey)
  · dsimp only
    rw [if_neg (show ¬ ((Value.ref a :: mstored w xs k).all carriedByValue) = true by simp [carriedByValue]), if_neg (any a rfl)]
    by_cases one : (mstored w xs k == [Value.ref a]) = true
    · rw [if_pos one]
      refine wpAny_bind (wpAny_pure ?_)
      rw [if_neg (by simp)]
      refine wpAny_bind ?_
      refine wpAny_forIn_list _ (fun rest b s' => s' = s ∧ ∃ hit seen, b = (none, hit) ∧ mplaces w xs k = seen ++ rest ∧ MHit xs k seen hit) _ ?_ ?_ _ _ ⟨rfl, none, [], rfl, rfl, .inl ⟨rfl, fun i hi => nomatch hi⟩⟩
      · rintro i rest b s' ⟨rfl, hit, seen, rfl, hp, hH⟩
        have hmem : i ∈ mplaces w xs k := by rw [hp]; simp
        obtain ⟨x, hx, hh⟩ := mem_places.mp hmem
        simp only [mcells_at, hx, Option.map_some]
        show wpAny _ _ (if (x.1.hash w == k.hash w) = true then _ else _) _ _ _
        rw [if_pos (by rw [hh]; simp)]
        refine wpAny_bind (wpAny_dictEpoch ho hd (wpAny_bind (same x (List.mem_of_getElem? hx) _ (wpAny_bind (wpAny_dictEpoch ho hd ?_)))))
        rw [if_neg (by simp)]
        by_cases e : x.1 = k
        · have hn : hit = none := by
            rcases hH with ⟨z, _⟩ | ⟨j, y, _, hj, hy, ey⟩
            · exact z
            · exact (alone seen rest i j x y hp hx e hj hy ey).elim
          subst hn
          rw [decide_eq_true e, if_pos rfl, if_neg (by simp)]
          refine wpAny_bind (wpAny_rule ?_)
          split
          · exact wpAny_pure (wpAny_pure (hyes i x hx e))
          · exact wpAny_pure ⟨rfl, some i, seen ++ [i], rfl, by rw [hp]; simp, .inr ⟨i, x, rfl, by simp, hx, e⟩⟩
        · rw [decide_eq_false e, if_neg Bool.false_ne_true]
          refine wpAny_bind (wpAny_rule ?_)
          rw [if_neg (by simp)]
          exact wpAny_pure ⟨rfl, hit, seen ++ [i], rfl, by rw [hp]; simp, hH.step hx e⟩
      · rintro b s' ⟨rfl, hit, seen, rfl, hp, hH⟩
        rw [List.append_nil] at hp
        rw [← hp] at hH
        cases hit with
        | none => exact wpAny_pure (hno hH.fin)
        | some j =>
          rcases hH with ⟨z, _⟩ | ⟨i, y, z, _, hy, ey⟩
          · cases z
          · cases z
            exact wpAny_pure (hyes j y hy ey)
    · rw [if_neg one]
      refine wpAny_bind (m_tells hk hst ?_)
      rw [if_neg (by simp)]
      refine wpAny_bind ?_
      refine wpAny_forIn_list _ (fun rest b s' => s' = s ∧ ∃ hit seen, b = (none, hit) ∧ mplaces w xs k = seen ++ rest ∧ MHit xs k seen hit) _ ?_ ?_ _ _ ⟨rfl, none, [], rfl, rfl, .inl ⟨rfl, fun i hi => nomatch hi⟩⟩
      · rintro i rest b s' ⟨rfl, hit, seen, rfl, hp, hH⟩
        have hmem : i ∈ mplaces w xs k := by rw [hp]; simp
        obtain ⟨x, hx, hh⟩ := mem_places.mp hmem
        simp only [mcells_at, hx, Option.map_some]
        show wpAny _ _ (if (x.1.hash w == k.hash w) = true then _ else _) _ _ _
        rw [if_pos (by rw [hh]; simp)]
        refine wpAny_bind (wpAny_dictEpoch ho hd (wpAny_bind (same x (List.mem_of_getElem? hx) _ (wpAny_bind (wpAny_dictEpoch ho hd ?_)))))
        rw [if_neg (by simp)]
        by_cases e : x.1 = k
        · have hn : hit = none := by
            rcases hH with ⟨z, _⟩ | ⟨j, y, _, hj, hy, ey⟩
            · exact z
            · exact (alone seen rest i j x y hp hx e hj hy ey).elim
          subst hn
          rw [decide_eq_true e, if_pos rfl, if_neg (by simp)]
          refine wpAny_bind (wpAny_rule ?_)
          split
          · exact wpAny_pure (wpAny_pure (hyes i x hx e))
          · exact wpAny_pure ⟨rfl, some i, seen ++ [i], rfl, by rw [hp]; simp, .inr ⟨i, x, rfl, by simp, hx, e⟩⟩
        · rw [decide_eq_false e, if_neg Bool.false_ne_true]
          refine wpAny_bind (wpAny_rule ?_)
          rw [if_neg (by simp)]
          exact wpAny_pure ⟨rfl, hit, seen ++ [i], rfl, by rw [hp]; simp, hH.step hx e⟩
      · rintro b s' ⟨rfl, hit, seen, rfl, hp, hH⟩
        rw [List.append_nil] at hp
        rw [← hp] at hH
        cases hit with
        | none => exact wpAny_pure (hno hH.fin)
        | some j =>
          rcases hH with ⟨z, _⟩ | ⟨i, y, z, _, hy, ey⟩
          · cases z
          · cases z
            exact wpAny_pure (hyes j y hy ey)
theorem m_get {d : Addr} {key : Value} {k : NestedKey} {xs : List MEnt} {Q : Option Value → Shared → Prop} (hu : A.units + 8 < cLine) (hk : MKey s.heap k key) (sort : key = .none ∨ ∃ a, key = .ref a) (hm : MRaw w s.heap d xs) (ks : MKeys s.heap xs)
    (h : ∀ t, Q (mlook xs k) { s with toks := t }) : wpAny (model prog w) A (dictGet d key) Q E s := by
  obtain ⟨o, ep, ho, hx, hd⟩ := id hm
  unfold dictGet
  refine wpAny_holding ?_
  refine wpAny_bind (pyHash_key k key A s _ hk.1 (by have := hk.2; omega) (wpAny_bind (m_find (s := { s with toks := s.toks + k.draws }) hu hk sort hm ks (fun no => ?_) fun i x hi e => ?_)))
  · have h := h (s.toks + k.draws)
    rw [mlook_no no] at h
    exact wpAny_pure h
  · have h := h (s.toks + k.draws)
    rw [show mlook xs k = some x.2.2 by rw [← e]; exact mlook_at ks.nd hi] at h
    refine wpAny_bind (wpAny_dictEntries (s := { s with toks := s.toks + k.draws }) ho hd ?_)
    rw [mcells_at, hi]
    exact wpAny_pure h
theorem m_setd {d : Addr} {key dflt : Value} {k : NestedKey} {xs : List MEnt} {Q : Value → Shared → Prop} (hu : A.units + 8 < cLine) (hk : MKey s.heap k key) (sort : key = .none ∨ ∃ a, key = .ref a) (hm : MRaw w s.heap d xs) (ks : MKeys s.heap xs) (hz : xs.length ≤ sizeLine)
    (h1 : ∀ v, mlook xs k = some v → ∀ t, Q v { s with toks := t }) (h2 : mlook xs k = none → ∀ h' t, MRaw w h' d (xs ++ [(k, key, dflt)]) → Heap.SameBut d s.heap h' → Q dflt { s with heap := h', toks := t }) :
    wpAny (model prog w) A (dictSetDefault d key dflt) Q E s := by
  obtain ⟨o, ep, ho, hx, hd⟩ := id hm
  unfold dictSetDefault
  refine wpAny_holding ?_
  refine wpAny_bind (pyHash_key k key A s _ hk.1 (by have := hk.2; omega) (wpAny_bind (m_find (s := { s with toks := s.toks + k.draws }) hu hk sort hm ks (fun no => ?_) fun i x hi e => ?_)))
  · refine wpAny_bind (wpAny_rule (wpAny_bind (wpAny_updateDictKeys (hz := by rw [mcells_size]; exact hz) (s := { s with toks := s.toks + k.draws }) ho hd (wpAny_pure ?_))))
    refine h2 (mlook_no no) _ _ ⟨_, ep + 1, Heap.get?_update_self _ ho (Obj.isFreed_of_dict (Obj.data_mapDictKeys hd _)), hx.mapDictKeys _, ?_⟩ (Heap.SameBut.update ..)
    rw [Obj.data_mapDictKeys hd]
    simp [mcells, mcell]
  · have h1 := h1 x.2.2 (by rw [← e]; exact mlook_at ks.nd hi) (s.toks + k.draws)
    refine wpAny_bind (wpAny_dictEntries (s := { s with toks := s.toks + k.draws }) ho hd ?_)
    rw [mcells_at, hi]
    exact wpAny_bind (wpAny_rule (wpAny_pure h1))
theorem m_typ {d : Addr} {xs : List MEnt} (hm : MRaw w s.heap d xs) : s.TypeIs (.ref d) "dict" := let ⟨o, _, ho, hx, _⟩ := hm; ⟨o, ho, hx.1⟩
theorem m_call_get {d : Addr} {key dflt : Value} {k : NestedKey} {xs : List MEnt} {Q : Value → Shared → Prop} (hu : A.units + 9 < cLine) (hk : MKey s.heap k key) (sort : key = .none ∨ ∃ a, key = .ref a) (hd : (d == sysModules) = false) (hm : MRaw w s.heap d xs) (ks : MKeys s.heap xs)
    (h : ∀ t, Q ((mlook xs k).getD dflt) { s with toks := t }) : wpAny (model prog w) A (call (.builtin "dict.get") [.ref d, key, dflt]) Q E s := by
  refine call_meetsIn (S := fun A' R s' => A'.in1.units + 8 < cLine ∧ MKey s'.heap k key ∧ MRaw w s'.heap d xs ∧ MKeys s'.heap xs ∧ ∀ t, R (.ok (.ret ((mlook xs k).getD dflt))) { s' with toks := t }) PySem.F.slot_dict_get (m_typ hm) PySem.F.entry_dict_get (PySem.F.args_dict_get_3 _ _ _) ?_ ?_
  · refine .of_wp fun A' R s' ⟨a1, a2, a3, a4, a5⟩ => ?_
    show wpAny _ _ (dictGet d key >>= _) _ _ s'
    refine wpAny_bind (m_get a1 a2 sort a3 a4 fun t => ?_)
    have a5 := a5 t
    cases e : mlook xs k with
    | some v =>
      rw [e] at a5
      exact wpAny_pure ⟨v, rfl, a5⟩
    | none =>
      rw [e] at a5
      show wpAny _ _ (Builtin.Dict.missed d key >>= _) _ _ _
      exact wpAny_bind (wpAny_missed_other hd (wpAny_pure ⟨dflt, rfl, a5⟩))
  · exact ⟨(show A.units + 1 + 8 < cLine by omega), hk, hm, ks, h⟩
theorem m_call_setd {d : Addr} {key dflt : Value} {k : NestedKey} {xs : List MEnt} {Q : Value → Shared → Prop} (hu : A.units + 9 < cLine) (hk : MKey s.heap k key) (sort : key = .none ∨ ∃ a, key = .ref a) (hd : (d == sysModules) = false) (hm : MRaw w s.heap d xs) (ks : MKeys s.heap xs) (hz : xs.length ≤ sizeLine)
    (h1 : ∀ v, mlook xs k = some v → ∀ t, Q v { s with toks := t }) (h2 : mlook xs k = none → ∀ h' t, MRaw w h' d (xs ++ [(k, key, dflt)]) → Heap.SameBut d s.heap h' → Q dflt { s with heap := h', toks := t }) :
    wpAny (model prog w) A (call (.builtin "dict.setdefault") [.ref d, key, dflt]) Q E s := by
  refine call_meetsIn (S := fun A' R s' => A'.in1.units + 8 < cLine ∧ MKey s'.heap k key ∧ MRaw w s'.heap d xs ∧ MKeys s'.heap xs ∧ (∀ v, mlook xs k = some v → ∀ t, R (.ok (.ret v)) { s' with toks := t }) ∧
    (mlook xs k = none → ∀ h' t, MRaw w h' d (xs ++ [(k, key, dflt)]) → Heap.SameBut d s'.heap h' → R (.ok (.ret dflt)) { s' with heap := h', toks := t })) PySem.F.slot_dict_setdefault (m_typ hm) PySem.F.entry_dict_setdefault (PySem.F.args_dict_setdefault_3 _ _ _) ?_ ?_
  · refine .of_wp fun A' R s' ⟨a1, a2, a3, a4, a5, a6⟩ => ?_
    unfold Builtin.«dict.setdefault»
    refine wpAny_bind ?_
    unfold Builtin.Dict.keyAndDefault
    refine wpAny_bind (wpAny_notOrdered_dict (m_typ a3) (wpAny_pure ?_))
    show wpAny _ _ (if (d == sysModules) = true then _ else (dictSetDefault d key dflt >>= _)) _ _ s'
    rw [if_neg (by rw [hd]; decide)]
    exact wpAny_bind (m_setd a1 a2 sort a3 a4 hz (fun v e t => wpAny_pure ⟨v, rfl, a5 v e t⟩) fun e h' t r hs => wpAny_pure ⟨dflt, rfl, a6 e h' t r hs⟩)
  · exact ⟨(show A.units + 1 + 8 < cLine by omega), hk, hm, ks, h1, h2⟩
end
end L2.TK
set_option Elab.async false
set_option linter.all false
set_option maxRecDepth 100000
set_option maxHeartbeats 2000000
/-! The dict of slots, None among them: its place in the abstract heap, and the rules of making it, of setdefault and get. -/
namespace L2.TK
open PySem PySem.Spec PyProof.Rows
/-- where something lies: a level and a slot, or none -/
abbrev MK := Option (Int × Int)
def nkey : MK → NestedKey
  | none => .none
  | some p => .tup [.num p.1, .num p.2]
theorem nkey_inj {a b : MK} (h : nkey a = nkey b) : a = b := by
  cases a with
  | none =>
    cases b with
    | none => rfl
    | some q => cases h
  | some p =>
    cases b with
    | none => cases h
    | some q =>
      have h : NestedKey.tup [.num p.1, .num p.2] = .tup [.num q.1, .num q.2] := h
      injection h with h
      injection h with h1 h2
      injection h2 with h2 _
      injection h1 with h1
      injection h2 with h2
      rw [show p = q from Prod.ext h1 h2]
theorem nkey_depth (a : MK) : (nkey a).depth ≤ 8 := by
  cases a with
  | none => simp [nkey, NestedKey.depth]
  | some p => simp [nkey, NestedKey.depth, NestedKey.depthAll]
/-- the value v is the key k -/
def KeyV (H : Hp) (k : MK) (v : V) : Prop := match k with
  | none => v = .non
  | some p => ∃ t, v = .ref t ∧ H t = some (.tup [.int p.1, .int p.2])
theorem KeyV.keep {H H' : Hp} {k : MK} {v : V} (h : KeyV H k v) (s : ∀ a xs, H a = some (.tup xs) → H' a = some (.tup xs)) : KeyV H' k v := by
  cases k with
  | none => exact h
  | some p =>
    obtain ⟨t, e, ht⟩ := h
    exact ⟨t, e, s _ _ ht⟩
theorem KeyV.at {P : Program} {w : World} {H : Hp} {h : Heap} {k : MK} {v : V} {u : Value} (kv : KeyV H k v) (ok : HOk P w H h) (r : RelV v u) : MKey h (nkey k) u ∧ (u = .none ∨ ∃ a, u = .ref a) := by
  cases k with
  | none =>
    cases (show v = .non from kv)
    cases (show u = Value.none from r)
    exact ⟨⟨.none, nkey_depth none⟩, .inl rfl⟩
  | some p =>
    obtain ⟨t, rfl, ht⟩ := kv
    cases (show u = Value.ref t from r)
    refine ⟨⟨?_, nkey_depth (some p)⟩, .inr ⟨t, rfl⟩⟩
    obtain ⟨_, its, rv, o, h1, h2, n, h3⟩ := (show ObjOk P w H h t (.tup [.int p.1, .int p.2]) from ok t _ ht)
    obtain ⟨a, b, rfl, ra, rb⟩ := Vals.two rv
    obtain ⟨i, rfl⟩ := ra
    obtain ⟨j, rfl⟩ := rb
    exact .tup h1 h2 h3 (.cons (.int _ _) (.cons (.int _ _) .nil))
/-- entries: where, the key's value, what is kept -/
abbrev MEs := List (MK × V × V)
def lookM (es : MEs) (k : MK) : Option V := (es.find? fun e => decide (e.1 = k)).map (·.2.2)
abbrev MRel : MEs → List MEnt → Prop := Paired fun p q => q.1 = nkey p.1 ∧ RelV p.2.1 q.2.1 ∧ RelV p.2.2 q.2.2
/-- the dict at a -/
def MD (w : World) (a : Addr) (es : MEs) : HO := .ext fun h => (a == sysModules) = false ∧ ∃ xs, MRel es xs ∧ MRaw w h a xs
/-- all its keys are keys, each once -/
structure MOk (H : Hp) (es : MEs) : Prop where
  is : ∀ e ∈ es, KeyV H e.1 e.2.1
  nd : (es.map (·.1)).Nodup
theorem MOk.keep {H H' : Hp} {es : MEs} (h : MOk H es) (s : ∀ a xs, H a = some (.tup xs) → H' a = some (.tup xs)) : MOk H' es := ⟨fun e he => (h.is e he).keep s, h.nd⟩
theorem MD_ok {P : Program} {w : World} {H : Hp} {h : Heap} {a : Addr} {es : MEs} {xs : List MEnt} (hd : (a == sysModules) = false) (r : MRel es xs) (m : MRaw w h a xs) : ObjOk P w H h a (MD w a es) := by
  refine ⟨⟨hd, xs, r, m⟩, ?_, fun h1 h2 ⟨d1, ys, d2, o, ep, d3, d4⟩ k => ⟨d1, ys, d2, o, ep, k o d3, d4⟩⟩
  obtain ⟨o, ep, e, _⟩ := m
  exact ⟨o, e⟩
theorem rel_keys : ∀ {es : MEs} {xs : List MEnt}, MRel es xs → xs.map (·.1) = es.map fun e => nkey e.1
  | _, _, .nil => rfl
  | _, _, .cons r t => by rw [List.map_cons, List.map_cons, r.1, rel_keys t]
theorem rel_nd {es : MEs} {xs : List MEnt} (r : MRel es xs) (nd : (es.map (·.1)).Nodup) : (xs.map (·.1)).Nodup := by
  rw [rel_keys r]
  rw [List.nodup_iff_pairwise_ne, List.pairwise_map] at nd ⊢
  exact nd.imp fun {a b} h z => h (nkey_inj z)
theorem rel_is {P : Program} {w : World} {H : Hp} {h : Heap} (ok : HOk P w H h) : ∀ {es : MEs} {xs : List MEnt}, MRel es xs → (∀ e ∈ es, KeyV H e.1 e.2.1) → ∀ x ∈ xs, MKey h x.1 x.2.1
  | _, _, .nil, _, x, hx => by cases hx
  | _, _, .cons r t, hk, x, hx => by
    rcases List.mem_cons.mp hx with rfl | hx
    · rw [r.1]
      exact ((hk _ List.mem_cons_self).at ok r.2.1).1
    · exact rel_is ok t (fun e he => hk e (List.mem_cons_of_mem _ he)) x hx
theorem rel_look (k : MK) : ∀ {es : MEs} {xs : List MEnt}, MRel es xs → (match lookM es k, mlook xs (nkey k) with | some v, some u => RelV v u | none, none => True | _, _ => False)
  | _, _, .nil => trivial
  | _, _, .cons (a := p) (b := q) r t => by
    by_cases e : p.1 = k
    · have e2 : q.1 = nkey k := by rw [r.1, e]
      simp only [lookM, mlook, List.find?_cons, e, e2, decide_true, Option.map_some]
      exact r.2.2
    · have e2 : ¬ q.1 = nkey k := fun z => e (nkey_inj (r.1.symm.trans z))
      have ih := rel_look k t
      simpa only [lookM, mlook, List.find?_cons, e, e2, decide_false] using ih
section
variable {X : Cx}
theorem md_of {H : Hp} {h : Heap} {P : Program} {w : World} {a : Addr} {es : MEs} (ok : HOk P w H h) (e : H a = some (MD w a es)) : (a == sysModules) = false ∧ ∃ xs, MRel es xs ∧ MRaw w h a xs := (show ObjOk P w H h a (MD w a es) from ok a _ e).1
/-- {} -/
def tDNewM (w : World) : TE := fun _ H Q => ∀ d, H d = none → Q (.ref d) (upd H d (MD w d []))
theorem pe_dnewM {pos : Pos} {w : World} (hw : X.w = w) : PE X (.Dict [] [] pos) (tDNewM w) := by
  subst hw
  refine ⟨fun pins s sg H Q I h => wpAny_Dict_empty ?_⟩
  have ok : ∀ H', ObjOk X.prog X.w H' (s.heap.push { cls := .type "dict", data := .dict #[] }) s.heap.objs.size (MD X.w s.heap.objs.size []) := fun H' => by
    obtain ⟨_, hd, _⟩ := (show ObjOk X.prog X.w H' _ s.heap.objs.size (.dT []) from dt_empty s.heap I.big)
    exact MD_ok hd .nil ⟨_, 0, Heap.get?_push_size _ rfl, ⟨rfl, rfl, rfl⟩, rfl⟩
  exact ⟨.ref s.heap.objs.size, _, I.laid (t' := s.toks) (fun b u q => Heap.get?_push_of_some _ q) (Nat.le_refl _) (ok _), rfl, h _ (I.hok.fresh (Nat.le_refl _))⟩
/-- d.get(k, x) -/
def rGetM (w : World) : V → List V → Hp → VK → Prop := fun x ys H Q => ∃ (a : Addr) (es : MEs) (k : MK) (y d : V), x = .ref a ∧ ys = [y, d] ∧ H a = some (MD w a es) ∧ MOk H es ∧ KeyV H k y ∧ Q ((lookM es k).getD d) H
theorem mt_getM {w : World} (hw : X.w = w) (hu : X.A.units + 9 < cLine) : MtR X "dict.get" (rGetM w) := by
  subst hw
  intro pins s sg H x ys v us Q I rx rv h
  obtain ⟨a, es, k, y, d, rfl, rfl, ha, hk, hy, q⟩ := h
  cases rx
  obtain ⟨u1, u2, rfl, r1, r2⟩ := Vals.two rv
  obtain ⟨hd, xs, rel, raw⟩ := md_of I.hok ha
  obtain ⟨mk, ns⟩ := hy.at I.hok r1
  refine m_call_get hu mk ns hd raw ⟨rel_is I.hok rel hk.is, rel_nd rel hk.nd⟩ fun t => ?_
  have rl := rel_look k rel
  cases e1 : lookM es k with
  | none =>
    cases e2 : mlook xs (nkey k) with
    | none =>
      rw [e1] at q
      exact ⟨d, H, I.tok t, r2, q⟩
    | some u =>
      rw [e1, e2] at rl
      exact rl.elim
  | some v =>
    cases e2 : mlook xs (nkey k) with
    | none =>
      rw [e1, e2] at rl
      exact rl.elim
    | some u =>
      rw [e1, e2] at rl
      rw [e1] at q
      exact ⟨v, H, I.tok t, rl, q⟩
/-- d.setdefault(k, x) -/
def rSetdM (w : World) : V → List V → Hp → VK → Prop := fun x ys H Q => ∃ (a : Addr) (es : MEs) (k : MK) (y d : V), x = .ref a ∧ ys = [y, d] ∧ H a = some (MD w a es) ∧ MOk H es ∧ KeyV H k y ∧ es.length < sizeLine ∧
  (∀ v, lookM es k = some v → Q v H) ∧ (lookM es k = none → Q d (upd H a (MD w a (es ++ [(k, y, d)]))))
theorem rel_len {es : MEs} {xs : List MEnt} (r : MRel es xs) : es.length = xs.length := Paired.length r
theorem rel_snoc : ∀ {es : MEs} {xs : List MEnt} {e : MK × V × V} {x : MEnt}, MRel es xs → (x.1 = nkey e.1 ∧ RelV e.2.1 x.2.1 ∧ RelV e.2.2 x.2.2) → MRel (es ++ [e]) (xs ++ [x])
  | _, _, _, _, .nil, h => .cons h .nil
  | _, _, _, _, .cons r t, h => .cons r (rel_snoc t h)
theorem mt_setdM {w : World} (hw : X.w = w) (hu : X.A.units + 9 < cLine) : MtR X "dict.setdefault" (rSetdM w) := by
  subst hw
  intro pins s sg H x ys v us Q I rx rv h
  obtain ⟨a, es, k, y, d, rfl, rfl, ha, hk, hy, hz, q1, q2⟩ := h
  cases rx
  obtain ⟨u1, u2, rfl, r1, r2⟩ := Vals.two rv
  obtain ⟨hd, xs, rel, raw⟩ := md_of I.hok ha
  obtain ⟨mk, ns⟩ := hy.at I.hok r1
  have rl := rel_look k rel
  refine m_call_setd hu mk ns hd raw ⟨rel_is I.hok rel hk.is, rel_nd rel hk.nd⟩ (by rw [← rel_len rel]; omega) (fun u e t => ?_) fun e h' t raw' hs => ?_
  · rw [e] at rl
    cases e1 : lookM es k with
    | none =>
      rw [e1] at rl
      exact rl.elim
    | some v =>
      rw [e1] at rl
      exact ⟨v, H, I.tok t, rl, q1 v e1⟩
  · rw [e] at rl
    cases e1 : lookM es k with
    | some v =>
      rw [e1] at rl
      exact rl.elim
    | none =>
      refine ⟨d, upd H a (MD X.w a (es ++ [(k, y, d)])), d_write I (by rw [ha]; exact True.intro) hs ?_ (MD_ok hd (rel_snoc rel ⟨rfl, r1, r2⟩) raw'), r2, q2 e1⟩
      obtain ⟨o, ep, e, _⟩ := raw'
      exact ⟨o, e⟩
/-- o.name(..), o such a dict -/
def tMM (w : World) (r : V → List V → Hp → VK → Prop) (to : TE) (t : TA) : TE := fun sg H Q => to sg H fun x H1 => (∃ a es, x = .ref a ∧ H1 a = some (MD w a es)) ∧ t sg H1 fun xs H2 => r x xs H2 Q
theorem pe_mm {w : World} (hw : X.w = w) {o e : Expr} {es : List Expr} {to : TE} {t : TA} {name : Str} {apos cpos : Pos} {id : String} {r : V → List V → Hp → VK → Prop} (slot : Slot "dict" name id) (hty : typeOf (.builtin id) = pure (.type "method_descriptor")) (hm : MtR X id r) (ho : PE X o to) (ha : PA X (e :: es) t)
    (base : attributeBase o name X.env (eval o X.env) = eval o X.env := by rfl)
    (few : ((backTo cpos (starEach (e :: es) X.env)).all (fun x => !x.1) && (backToKw cpos (keywordEach [] X.env)).all (fun x => x.1.isSome) && decide ((e :: es).length + ([] : List Keyword).length + (if ([] : List Keyword).isEmpty then 0 else 1) < 30)) = true := by rfl)
    (line : (apos.endLine == cpos.line) = true := by rfl) (star : starEach (e :: es) X.env = (false, eval e X.env) :: starEach es X.env := by rfl) (plain : (backTo cpos (starEach es X.env)).any (·.1) = false := by rfl) :
    PE X (.Call (.Attribute o name apos) (e :: es) [] cpos) (tMM w r to t) := by
  subst hw
  refine ⟨fun pins s sg H Q I h => wpAny_Call_method_late base few line rfl (thn (ho.run pins s sg H _ I h) fun v s1 ⟨x, H1, I1, r1, ⟨a, kvs, ex, hx⟩, q1⟩ => ?_)⟩
  subst ex
  cases r1
  obtain ⟨hd, xs, rel, ob, ep, h1, h2, h3⟩ := md_of I1.hok hx
  refine ⟨"dict", id, PySem.F.plainAttrs_dict, slot, hty, ⟨ob, h1, h2.1⟩, fun b e2 => ?_, ?_⟩
  · cases e2
    exact ⟨ob, h1, h2.2.1⟩
  have hA := ha.run cpos pins s1 sg H1 _ I1 q1
  rw [star] at hA ⊢
  refine Calls.callWith_builtin ?_ (Calls.evalArgs_plain (thn hA fun us s2 ⟨vs, H2, I2, r2, q2⟩ => hm pins s2 sg H2 (.ref a) vs _ us Q I2 rfl r2 q2))
  show (false || (backTo cpos (starEach es X.env)).any (·.1)) = false
  rw [plain]
  rfl
end
end L2.TK
set_option Elab.async false
set_option linter.all false
set_option maxRecDepth 100000
set_option maxHeartbeats 4000000
namespace L2.TK
open PySem TkM
/-- where(number) -/
def spWhere (CW CA CB CNot : Addr) : Sp := fun vs H Q E => ∃ (A : BA) (F : Addr → Prop) (S : Int) (L : Nat) (now many : Int) (m : Mp Str) (n : Int), vs = [.ref A.x, .int n] ∧ Bk CW CA CB H F A S L now many m ∧
  (m n = none → E (.ref CNot) none H) ∧ ∀ a, m n = some a → (a.rests = true → E (.ref CNot) none H) ∧ (a.rests = false →
  (place S L now a.val = none → Q .non H) ∧ ∀ k, place S L now a.val = some k → ∀ p, H p = none → Q (.ref p) (upd H p (.tup [.int k.1, .int k.2])))
/-- lying(level, slot) -/
def spLying (CW CA CB : Addr) : Sp := fun vs H Q _ => ∃ (A : BA) (F : Addr → Prop) (S : Int) (L : Nat) (now many : Int) (m : Mp Str) (l sl : Int), vs = [.ref A.x, .int l, .int sl] ∧ Bk CW CA CB H F A S L now many m ∧ many ≤ 1000 ∧
  ∀ (p : Addr) (H' : Hp) (ns : List Int), H p = none → Same H H' → H' p = some (.lst (ns.map V.int)) → ns.Pairwise (· < ·) → (∀ n, n ∈ ns ↔ ∃ d, Wt m (d, n) ∧ place S L now d = some (l, sl)) → Q (.ref p) H'
theorem wt_snd {m : Mp Str} : ∀ {ps : List (Int × Int)}, ps.Nodup → (∀ p ∈ ps, Wt m p) → (ps.map (·.2)).Nodup
  | [], _, _ => List.nodup_nil
  | p :: ps, nd, h => by
    obtain ⟨h1, h2⟩ := List.nodup_cons.mp nd
    rw [List.map_cons, List.nodup_cons]
    refine ⟨fun z => ?_, wt_snd h2 fun q hq => h q (List.mem_cons_of_mem _ hq)⟩
    obtain ⟨q, hq, e⟩ := List.mem_map.mp z
    obtain ⟨a, a1, _, a3⟩ := h p List.mem_cons_self
    obtain ⟨b, b1, _, b3⟩ := h q (List.mem_cons_of_mem _ hq)
    rw [e, a1] at b1
    cases b1
    exact h1 (by rw [show p = q from Prod.ext (a3.symm.trans b3) e.symm]; exact hq)
section
variable {P : Program} {w : World} {K : PySem.W.Frag} {mg : Str → Option Value} {base : Heap} {CW CA CB CT CBad CPast CNot : Addr}
theorem scWhere : FnScope ["self", "number"] ["self", "number"] (defScope sBook_where) := ⟨rfl, rfl, rfl, by decide +kernel, rfl, by decide +kernel, by decide +kernel⟩
theorem ok_Where {f : Addr} {fd : FuncData} (F : Fun K "where" "Book.where" sBook_where f fd) (T : Txt K mg CW CA CB CT CBad CPast CNot) (GN : GMe P w K mg base (L2.CX P w) 1 CB "need" ["self", "number", "rests"] (spNeed CW CA CB CNot))
    (GP : GMe P w K mg base CX0 1 CW "place" ["self", "now", "due"] (spPlace CW)) : FnOk P w K mg base (L2.CX P w) 2 f fd ["self", "number"] (spWhere CW CA CB CNot) := by
  obtain ⟨fN, fdN, mN, bN, GN⟩ := GN
  obtain ⟨fP, fdP, mP, bP, GP⟩ := GP
  refine F.okX scWhere (fun vs H Q E h => ?_) (fun cdv A outer s H vs Q E hr h => ?_)
  · obtain ⟨A, F, S, L, now, many, m, n, rfl, _⟩ := h
    rfl
  · obtain ⟨A, F, S, L, now, many, m, n, rfl, ⟨b, ahead⟩, kE, k⟩ := h
    have hr1 : Room 1 _ := hr
    refine ⟨_, pss_one (ps_ret (pe_meth (pe_fld (pv 0) rfl) T.clW mP GP hr1 bP .nil pass0 (pa_cons (pe_fld (pv 0) rfl)
      (pa_cons (pe_fld (pe_meth (pv 0) T.clB mN GN hr1 bN .nil (passes_call (takes_of rfl rfl rfl rfl) (fun _ _ _ _ h => h)) (pa_cons (pv 1) (pa_cons pe_bl pa_nil))) rfl) pa_nil)))), ?_⟩
    obtain ⟨R, far, W, G⟩ := b.wh
    refine ⟨_, rfl, A.x, CB, A.dx, _, _, rfl, b.ob, T.clB, T.bWheels, bf_wheels, A.wa.x, A.wa.dx, _, rfl, W.ob, rfl, _, rfl, A.x, CB, A.dx, _, _, rfl, b.ob, T.clB, T.bNow, bf_now, ?_⟩
    refine ⟨_, rfl, A.x, A.dx, _, rfl, b.ob, rfl, _, rfl, A, F, S, L, now, now, many, m, Wt m, n, false, rfl, b, kE, fun a hm => ⟨fun z => (k a hm).1 (by cases q : a.rests with | true => rfl | false => exact absurd q z), fun ha => ?_⟩⟩
    obtain ⟨k1, k2⟩ := (k a hm).2 ha
    obtain ⟨y1, ⟨dx, wn, y2, y3⟩, y4, y5, y6⟩ := b.yes n a hm
    have y3 := y3 ha
    subst y3
    refine ⟨A.aa n, CA, dx, _, _, rfl, y2, T.clA, T.aWhen, af_when, ?_⟩
    exact ⟨A.wa, A.fw, S, L, R, far, now, a.val, rfl, W, b.WS, k1, k2⟩
theorem scLying : FnScope ["self", "level", "slot", "one"] ["self", "level", "slot"] (defScope sBook_lying) := ⟨rfl, rfl, rfl, by decide +kernel, rfl, by decide +kernel, by decide +kernel⟩
theorem ok_Lying {f : Addr} {fd : FuncData} (F : Fun K "lying" "Book.lying" sBook_lying f fd) (T : Txt K mg CW CA CB CT CBad CPast CNot) : FnOk P w K mg base CX0 1 f fd ["self", "level", "slot"] (spLying CW CA CB) := by
  refine F.ok scLying (fun vs H Q E h => ?_) (fun cdv A outer s H vs Q E hr h => ?_)
  · obtain ⟨A, F, S, L, now, many, m, l, sl, rfl, _⟩ := h
    rfl
  · obtain ⟨A, F, S, L, now, many, m, l, sl, rfl, ⟨b, ahead⟩, hm, k⟩ := h
    have hu := hu_of hr
    refine ⟨_, pss_one (ps_ret (pe_callB cr_sortedI (by rfl) T.sorted (by decide +kernel) (pa_cons
      (pe_lc (own := [("one", 3)]) (g := gName 3) (tt := tYes) (te := tOp (rIxT K) (tVar 3) (tC (.int 1))) rfl scLying.nd (pi_list (pe_dget2 hu (pe_fld (pe_fld (pv 0) rfl) rfl) (pe_tup (pa_cons (pv 1) (pa_cons (pv 2) pa_nil))) (pe_lst pa_nil) ⟨rfl, rfl, rfl, rfl⟩))
        (blkOk_by (own := [("one", 3)]) (N := ["self", "level", "slot", "one"]) (sc := defScope sBook_lying) (by decide +kernel)) (fun _ _ _ _ _ => pg_name (i := 3) scLying.nd rfl (Or.inl rfl)) (fun _ _ _ _ _ => pts_nil) (fun _ _ _ _ _ => pe_ix ix_tup (pv 3) pe_int (fun _ _ => rfl))) pa_nil))), ?_⟩
    obtain ⟨R, far, W, G⟩ := b.wh
    refine ⟨_, rfl, A.x, CB, A.dx, _, _, rfl, b.ob, T.clB, T.bWheels, bf_wheels, A.wa.x, CW, A.wa.dx, _, _, rfl, W.ob, T.clW, T.wRows, wf_rows, A.wa.rw, rfl, .inr ⟨_, .inl W.rw⟩, ?_⟩
    refine ⟨_, rfl, _, rfl, (by show 2 ≤ sizeLine; decide), fun u hu' => ?_⟩
    have s3 : Same H (upd H u (.tup [.int l, .int sl])) := Same.new hu'
    refine ⟨Nat.zero_le _, fun d hd => ?_⟩
    have s4 := s3.trans (Same.new (o := .lst []) hd)
    have W4 := W.same s4
    have eu := Same.new (o := .lst []) hd _ _ (upd_same (H := H) (a := u) (o := .tup [.int l, .int sl]))
    generalize he : upd (upd H u (.tup [.int l, .int sl])) d (.lst []) = H4 at s4 W4 eu ⊢
    have hd4 : H4 d = some (.lst []) := by rw [← he, upd_same]
    have fin : ∀ a : Addr, PL H4 a (R (l, sl)) → tLc (iList K (fun _ H Q => Q (.ref a) H)) (gName 3) tYes (tOp (rIxT K) (tVar 3) (tC (.int 1))) [3] [some (.ref A.x), some (.int l), some (.int sl), none] H4 (fun x H' => rSortedI K [x] H' Q) := fun a pl => by
      refine snds_sorted pl ((G.lens (b.few hm)).1 _) (fun _ => rfl) (fun _ => rfl) fun p H' ns hp s6 h1 h2 h3 => ?_
      have nd := wt_snd (m := m) (G.nd (l, sl)) fun q hq => ((G.row _ _).mp hq).1
      refine k p H' ns ?_ (s4.trans s6) h1 (strict_of h3 (h2.nodup_iff.mpr nd)) fun n => ?_
      · cases e : H p with
        | none => rfl
        | some o =>
          rw [s4 p o e] at hp
          cases hp
      · rw [h2.mem_iff, List.mem_map]
        constructor
        · rintro ⟨q, hq, rfl⟩
          obtain ⟨w1, w2⟩ := (G.row _ _).mp hq
          exact ⟨q.1, w1, w2⟩
        · rintro ⟨dd, w1, w2⟩
          exact ⟨(dd, n), (G.row _ _).mpr ⟨w1, w2⟩, rfl⟩
    by_cases hk0 : R (l, sl) = []
    · refine ⟨none, .inr ⟨A.wa.kvs, pairK (l, sl), u, .inl W4.rw, rfl, eu, (W.no _ hk0).symm⟩, ?_⟩
      refine fin d ?_
      rw [hk0]
      exact ⟨[], hd4, .nil⟩
    · obtain ⟨y1, y2, _⟩ := W4.yes _ hk0
      refine ⟨some (.ref (A.wa.ad (l, sl))), .inr ⟨A.wa.kvs, pairK (l, sl), u, .inl W4.rw, rfl, eu, y1.symm⟩, ?_⟩
      exact fin _ y2
end
end L2.TK
set_option Elab.async false
set_option linter.all false
set_option maxRecDepth 100000
set_option maxHeartbeats 4000000
namespace TkM
/-- the law's own words of where a tick lies -/
theorem first_mul {S : Int} (i : Nat) (now : Int) : now - now % (S ^ i * S) = S ^ (i + 1) * Qt S (i + 1) now := by
  have e := Int.mul_ediv_add_emod now (S ^ (i + 1))
  unfold Qt
  rw [show S ^ i * S = S ^ (i + 1) from (Int.pow_succ S i).symm]
  omega
theorem first_in {S : Int} (hS : 0 < S) (i : Nat) (now due : Int) : (now - now % (S ^ i * S) ≤ due ∧ due < now - now % (S ^ i * S) + S ^ i * S) ↔ Qt S (i + 1) due = Qt S (i + 1) now := by
  have hp : 0 < S ^ (i + 1) := Int.pow_pos hS
  rw [first_mul, show S ^ i * S = S ^ (i + 1) from (Int.pow_succ S i).symm]
  have a := Int.le_ediv_iff_mul_le (a := Qt S (i + 1) now) (b := due) hp
  have b := Int.ediv_lt_iff_lt_mul (a := due) (b := Qt S (i + 1) now + 1) hp
  have c1 : Qt S (i + 1) now * S ^ (i + 1) = S ^ (i + 1) * Qt S (i + 1) now := Int.mul_comm _ _
  have c2 : (Qt S (i + 1) now + 1) * S ^ (i + 1) = S ^ (i + 1) * Qt S (i + 1) now + S ^ (i + 1) := by
    rw [Int.add_mul, Int.one_mul, c1]
  rw [c1] at a
  rw [c2] at b
  show _ ↔ due / S ^ (i + 1) = Qt S (i + 1) now
  rw [← a, ← b]
  omega
theorem first_slot {S : Int} (hS : 0 < S) (i : Nat) {now due : Int} (h : Qt S (i + 1) due = Qt S (i + 1) now) : (due - (now - now % (S ^ i * S))) / S ^ i = Qt S i due % S := by
  have hp : S ^ i ≠ 0 := Int.ne_of_gt (Int.pow_pos hS)
  have e1 : due - (now - now % (S ^ i * S)) = due + S ^ i * (-(S * Qt S (i + 1) now)) := by
    rw [first_mul, Int.pow_succ, Int.mul_assoc, Int.mul_neg]
    omega
  rw [e1, Int.add_mul_ediv_left _ _ hp]
  have e2 := Qt_split hS i due
  rw [h] at e2
  show Qt S i due + _ = _
  omega
end TkM
namespace L2.TK
open PySem TkM
def spLWhere : Sp := fun vs H Q _ => ∃ (x wa ra : Addr) (S l now many due : Int), vs = [.ref x, .int due] ∧ H x = some (.dK (wkv S l now many wa ra)) ∧ gdW S l ∧
  (place S l.toNat now due = none → Q .non H) ∧ ∀ k, place S l.toNat now due = some k → ∀ p, H p = none → Q (.ref p) (upd H p (.tup [.int k.1, .int k.2]))
section
variable {P : Program} {w : World} {K : PySem.W.Frag} {mg : Str → Option Value} {base : Heap} {CW CA CB CT CBad CPast CNot : Addr}
theorem scLWhere : FnScope ["_law_world", "_law_due", "_law_span", "_law_level", "_law_wide", "_law_first"] ["_law_world", "_law_due"] (defScope s_law_where) := ⟨rfl, rfl, rfl, by decide +kernel, rfl, by decide +kernel, by decide +kernel⟩
theorem ok_LWhere {f : Addr} {fd : FuncData} (F : Fun K "_law_where" "_law_where" s_law_where f fd) (T : Txt K mg CW CA CB CT CBad CPast CNot) : FnOk P w K mg base CX0 1 f fd ["_law_world", "_law_due"] spLWhere := by
  refine F.ok scLWhere (fun vs H Q E h => ?_) (fun cdv A outer s H vs Q E hr h => ?_)
  · obtain ⟨x, wa, ra, S, l, now, many, due, rfl, _⟩ := h
    rfl
  · obtain ⟨x, wa, ra, S, l, now, many, due, rfl, hx, ⟨b1, b2, b3, b4⟩, kN, kS⟩ := h
    have hu := hu_of hr
    refine ⟨_, pss_cons (ps_set (i := 2) scLWhere.nd rfl (Or.inl rfl) pe_int)
      (pss_cons (ps_for PassesOwn.never rfl (pi_range1 rfl T.range (pa_cons (pe_dget hu (pv 0) pe_str (fun _ _ => rfl)) pa_nil)) (pg_name (i := 3) scLWhere.nd rfl (Or.inl rfl))
        (pss_cons (ps_set (i := 4) scLWhere.nd rfl (Or.inl rfl) (pe_op op_mul (pv 2) (pe_dget hu (pv 0) pe_str (fun _ _ => rfl))))
        (pss_cons (ps_set (i := 5) scLWhere.nd rfl (Or.inl rfl) (pe_op op_sub (pe_dget hu (pv 0) pe_str (fun _ _ => rfl)) (pe_op op_modN (pe_dget hu (pv 0) pe_str (fun _ _ => rfl)) (pv 4))))
        (pss_cons (ps_if (pt_chain op_le op_lt (pv 5) (pv 1) (pe_op op_add (pv 5) (pv 4))) (pss_one (ps_ret (pe_tup (pa_cons (pv 3) (pa_cons (pe_op op_fdivW (pe_op op_sub (pv 1) (pv 5)) (pv 2)) pa_nil))))) pss_nil)
        (pss_one (ps_set (i := 2) scLWhere.nd rfl (Or.inl rfl) (pv 4)))))))
      (pss_one (ps_ret pe_non))), ?_⟩
    have hS : 0 < S := by omega
    refine ⟨_, rfl, x, _, rfl, by rw [← wkv_levels]; exact DGet.k (k := Sum.inr "levels") hx, l, rfl, by omega, by omega, for_range (lo := 0) (n := l.toNat) (fun i sg H' => H' = H ∧ (∃ v3 v4 v5, sg = [some (.ref x), some (.int due), some (.int (S ^ i)), v3, v4, v5]) ∧ ∀ j, j < i → Qt S (j + 1) due ≠ Qt S (j + 1) now) ⟨rfl, ⟨none, none, none, by simp; rfl⟩, fun j hj => absurd hj (Nat.not_lt_zero j)⟩ ?_ ?_⟩
    · rintro i sg H' hi ⟨rfl, ⟨v3, v4, v5, rfl⟩, hn⟩
      obtain ⟨p3, p4⟩ := pow_small (i := i) b1 b2 (by omega)
      have hw : 0 < S ^ i * S := Int.mul_pos p3 hS
      refine ⟨_, rfl, _, rfl, x, _, rfl, by rw [← wkv_slots]; exact DGet.k (k := Sum.inr "slots") hx, _, _, rfl, rfl, .inr ⟨by omega, by omega⟩, ?_⟩
      refine ⟨_, rfl, x, _, rfl, by rw [← wkv_now]; exact DGet.k (k := Sum.inr "now") hx, _, rfl, x, _, rfl, by rw [← wkv_now]; exact DGet.k (k := Sum.inr "now") hx, _, rfl, _, _, rfl, rfl, nz (by omega), _, _, rfl, rfl, ?_⟩
      have en : now.fmod (S ^ i * S) = now % (S ^ i * S) := fmodP hw
      have key := first_in hS i now due
      refine ⟨_, rfl, _, rfl, _, _, rfl, rfl, _, rfl, if2 (fun c1 => ⟨_, rfl, _, rfl, _, _, rfl, rfl, _, _, rfl, rfl, _, rfl, if2 (fun c2 => ?_) fun c2 => ?_⟩) fun c1 => ⟨_, rfl, iteF ?_⟩⟩
      · rw [en] at c1 c2
        have c := key.mp ⟨c1, c2⟩
        refine ⟨_, rfl, _, rfl, _, rfl, _, _, rfl, rfl, _, rfl, _, _, rfl, rfl, wdiv p3 p4, (by show 2 ≤ sizeLine; decide), fun p hp => ?_⟩
        have := kS _ (place_some (by omega) c hn) p hp
        show Q (.ref p) (upd H' p (.tup [.int (0 + (i : Int)), .int ((due - (now - now.fmod (S ^ i * S))) / S ^ i)]))
        rw [en, first_slot hS i c, Int.zero_add]
        exact this
      all_goals
        refine ⟨_, rfl, rfl, ⟨_, _, _, by rw [Int.pow_succ]; rfl⟩, fun j hj => ?_⟩
        by_cases e : j = i
        · subst e
          intro z
          have := key.mpr z
          rw [← en] at this
          omega
        · exact hn j (by omega)
    · rintro sg H' ⟨rfl, _, hn⟩
      exact kN (place_none fun j hj => hn j hj)
end
end L2.TK
set_option Elab.async false
set_option linter.all false
set_option maxRecDepth 100000
set_option maxHeartbeats 8000000
namespace L2.TK
open PySem TkM
/-! ### the numbers by where they lie -/
def keyOf (S : Int) (L : Nat) (now : Int) (m : Mp Str) (n : Int) : MK := match m n with
  | some a => place S L now a.val
  | none => none
theorem keyOf_some {S : Int} {L : Nat} {now : Int} {m : Mp Str} {n : Int} {a : Al Str} (h : m n = some a) : keyOf S L now m n = place S L now a.val := by
  unfold keyOf
  rw [h]
def selK (f : Int → MK) (k : MK) (ns : List Int) : List Int := ns.filter fun n => decide (f n = k)
section
variable {f : Int → MK} {k : MK} {done : List Int} {n : Int}
theorem selK_same (h : f n = k) : selK f k (done ++ [n]) = selK f k done ++ [n] := by
  unfold selK
  rw [List.filter_append]
  congr 1
  simp [h]
theorem selK_ne (h : f n ≠ k) : selK f k (done ++ [n]) = selK f k done := by
  unfold selK
  rw [List.filter_append]
  simp [h]
end
theorem lookM_snoc {es : MEs} {e : MK × V × V} {k : MK} : lookM (es ++ [e]) k = match lookM es k with
    | some v => some v
    | none => if e.1 = k then some e.2.2 else none := by
  unfold lookM
  rw [List.find?_append]
  cases h : es.find? (fun e => decide (e.1 = k)) with
  | some x => rfl
  | none =>
    by_cases c : e.1 = k
    · simp [c]
    · simp [c]
theorem lookM_mem {es : MEs} {e : MK × V × V} (h : e ∈ es) : lookM es e.1 ≠ none := by
  unfold lookM
  intro z
  rw [Option.map_eq_none_iff, List.find?_eq_none] at z
  have := z e h
  simp at this
/-- the dict of the slots, when the numbers done have been laid into it -/
structure SlotsAt (w : World) (HB H : Hp) (D : Addr) (es : MEs) (ad : MK → Addr) (f : Int → MK) (done : List Int) : Prop where
  at_ : H D = some (MD w D es)
  ok : MOk H es
  sz : es.length ≤ done.length
  no : ∀ k, selK f k done = [] → lookM es k = none
  yes : ∀ k, selK f k done ≠ [] → lookM es k = some (.ref (ad k)) ∧ H (ad k) = some (.lst ((selK f k done).map V.int)) ∧ HB (ad k) = none
  inj : ∀ k j, selK f k done ≠ [] → selK f j done ≠ [] → ad k = ad j → k = j
  kp : ∀ a o, a ≠ D → HB a = some o → H a = some o
section
variable {w : World} {HB H H' : Hp} {D : Addr} {es : MEs} {ad : MK → Addr} {f : Int → MK} {done : List Int} {n : Int}
theorem SlotsAt.same (s : SlotsAt w HB H D es ad f done) (k : Same H H') : SlotsAt w HB H' D es ad f done :=
  ⟨k _ _ s.at_, s.ok.keep fun a xs e => k _ _ e, s.sz, s.no, fun j h => let ⟨a, b, c⟩ := s.yes j h; ⟨a, k _ _ b, c⟩, s.inj, fun a o h e => k _ _ (s.kp a o h e)⟩
theorem SlotsAt.old (s : SlotsAt w HB H D es ad f done) (hne : selK f (f n) done ≠ []) : SlotsAt w HB (upd H (ad (f n)) (.lst ((selK f (f n) done).map V.int ++ [V.int n]))) D es ad f (done ++ [n]) := by
  obtain ⟨y1, y2, y3⟩ := s.yes _ hne
  have nD : D ≠ ad (f n) := ne_of s.at_ y2 (by intro z; cases z)
  have on : ∀ a o, a ≠ ad (f n) → H a = some o → upd H (ad (f n)) (.lst ((selK f (f n) done).map V.int ++ [V.int n])) a = some o := fun a o h e => by
    rw [upd_ne h]
    exact e
  have ne : ∀ k, selK f k (done ++ [n]) ≠ [] → selK f k done ≠ [] := fun k h => by
    by_cases c : f n = k
    · rw [← c]
      exact hne
    · rw [selK_ne c] at h
      exact h
  refine ⟨on _ _ nD s.at_, s.ok.keep fun a xs e => on _ _ (ne_of e y2 (by intro z; cases z)) e, by rw [List.length_append]; have := s.sz; omega, fun k h => ?_, fun k h => ?_, fun k j a b => s.inj k j (ne k a) (ne j b), fun a o h e => on _ _ (fun z => ?_) (s.kp a o h e)⟩
  · by_cases c : f n = k
    · rw [selK_same c] at h
      exact absurd h (by simp)
    · rw [selK_ne c] at h
      exact s.no k h
  · obtain ⟨z1, z2, z3⟩ := s.yes k (ne k h)
    by_cases c : f n = k
    · subst c
      rw [selK_same rfl]
      exact ⟨z1, by rw [upd_same, List.map_append]; rfl, z3⟩
    · rw [selK_ne c]
      exact ⟨z1, on _ _ (fun z => c (s.inj _ _ (ne k h) hne z).symm) z2, z3⟩
  · rw [z, y3] at e
    cases e
theorem SlotsAt.new (s : SlotsAt w HB H D es ad f done) {q : Addr} {y : V} (he : selK f (f n) done = []) (hq : H q = none) (hy : KeyV H (f n) y) (e1 : H' D = some (MD w D (es ++ [(f n, y, .ref q)]))) (e2 : H' q = some (.lst [.int n])) (k : ∀ a o, a ≠ D → H a = some o → H' a = some o) :
    SlotsAt w HB H' D (es ++ [(f n, y, .ref q)]) (fun j => if j = f n then q else ad j) f (done ++ [n]) := by
  have nD : q ≠ D := (ne_of_none s.at_ hq).symm
  have hB : HB q = none := by
    cases e : HB q with
    | none => rfl
    | some o =>
      rw [s.kp q o nD e] at hq
      cases hq
  have tk : ∀ a xs, H a = some (.tup xs) → H' a = some (.tup xs) := fun a xs e => k _ _ (ne_of e s.at_ (by intro z; cases z)) e
  have hl := s.no _ he
  have na : ∀ j, selK f j done ≠ [] → ad j ≠ q := fun j h z => by
    have := (s.yes j h).2.1
    rw [z, hq] at this
    cases this
  have lk : ∀ j, lookM (es ++ [(f n, y, .ref q)]) j = if j = f n then some (.ref q) else lookM es j := fun j => by
    rw [lookM_snoc]
    by_cases c : j = f n
    · subst c
      rw [hl, if_pos rfl]
      try exact if_pos rfl
    · rw [if_neg c]
      cases lookM es j with
      | some v => rfl
      | none => exact if_neg fun z => c z.symm
  refine ⟨e1, ⟨fun e h => ?_, ?_⟩, by rw [List.length_append, List.length_append]; have := s.sz; simp; omega, fun j h => ?_, fun j h => ?_, fun j i a b e => ?_, fun a o h e => k _ _ h (s.kp a o h e)⟩
  · rcases List.mem_append.mp h with h | h
    · exact (s.ok.is e h).keep tk
    · rw [List.mem_singleton.mp h]
      exact hy.keep tk
  · rw [List.map_append, List.nodup_append]
    refine ⟨s.ok.nd, by simp, fun a ha b hb z => ?_⟩
    rw [List.mem_singleton.mp hb] at z
    obtain ⟨e, he', rfl⟩ := List.mem_map.mp ha
    exact lookM_mem he' (by rw [z]; exact hl)
  · by_cases c : f n = j
    · rw [selK_same c] at h
      exact absurd h (by simp)
    · rw [selK_ne c] at h
      rw [lk, if_neg fun z => c z.symm]
      exact s.no j h
  · by_cases c : f n = j
    · subst c
      rw [selK_same rfl, he, lk, if_pos rfl, if_pos rfl]
      exact ⟨rfl, e2, hB⟩
    · rw [selK_ne c] at h ⊢
      obtain ⟨z1, z2, z3⟩ := s.yes j h
      rw [lk, if_neg fun z => c z.symm, if_neg fun z => c z.symm]
      exact ⟨z1, k _ _ (fun z => (ne_of z2 s.at_ (by intro z; cases z)) z) z2, z3⟩
  · have e : (if j = f n then q else ad j) = (if i = f n then q else ad i) := e
    have st : ∀ j, selK f j (done ++ [n]) ≠ [] → j ≠ f n → selK f j done ≠ [] := fun j h c => by
      rw [selK_ne fun z => c z.symm] at h
      exact h
    by_cases cj : j = f n
    · by_cases ci : i = f n
      · rw [cj, ci]
      · rw [if_pos cj, if_neg ci] at e
        exact absurd e.symm (na i (st i b ci))
    · by_cases ci : i = f n
      · rw [if_neg cj, if_pos ci] at e
        exact absurd e (na j (st j a cj))
      · rw [if_neg cj, if_neg ci] at e
        exact s.inj j i (st j a cj) (st i b ci) e
end
/-! ### where, as data -/
def mkD : MK → PyData
  | none => .none
  | some k => .tuple [.int k.1, .int k.2]
theorem mkD_shape (k : MK) : SeqAt.shaped (mkD k) = true := by
  cases k with
  | none => rfl
  | some k => simp [SeqAt.shaped, mkD, PyData.canLay0, PyData.canLayAll0, PyData.depth, PyData.depthAll]
theorem keyV_dp {K : PySem.W.Frag} {H : Hp} {k : MK} {v : V} (h : KeyV H k v) : Dp K H v (mkD k) := by
  cases k with
  | none =>
    cases (show v = .non from h)
    exact .non
  | some p =>
    obtain ⟨t, rfl, ht⟩ := h
    exact .tup (SqT.of ht) (.cons (.int _) (.cons (.int _) .nil))
/-- the numbers of a slot: two rising lists of the same -/
theorem sel_eq {f : Int → MK} {k : MK} {ns ns' : List Int} (h1 : ns.Pairwise (· < ·)) (h2 : ns'.Pairwise (· < ·)) (h : ∀ n, n ∈ ns' ↔ n ∈ ns ∧ f n = k) : ns' = selK f k ns := by
  have h3 : (selK f k ns).Pairwise (· < ·) := h1.sublist List.filter_sublist
  refine List.Perm.eq_of_pairwise (le := fun x y : Int => x < y) (fun x y _ _ a b => by omega) h2 h3 ?_
  refine (List.perm_ext_iff_of_nodup (List.nodup_iff_pairwise_ne.mpr (h2.imp fun {x y} h => by omega)) (List.nodup_iff_pairwise_ne.mpr (h3.imp fun {x y} h => by omega))).mpr fun n => ?_
  rw [h]
  unfold selK
  rw [List.mem_filter, decide_eq_true_iff]
def spLies (CW CA CB : Addr) : Sp := fun vs H Q _ => ∃ (A : BA) (F : Addr → Prop) (S l now many : Int) (m : Mp Str) (x wa ra : Addr), vs = [.ref A.x, .ref x] ∧ Bk CW CA CB H F A S l.toNat now many m ∧ WO H x wa ra S l now many m ∧ gdW S l ∧ many ≤ 900 ∧
  ∀ H', Same H H' → Q (.bl true) H'
section
variable {P : Program} {w : World} {K : PySem.W.Frag} {mg : Str → Option Value} {base : Heap} {CW CA CB CT CBad CPast CNot : Addr}
theorem scLies : FnScope ["_law_book", "_law_world", "_law_slots", "_law_number", "_law_due", "_law_found", "_law_level", "_law_slot"] ["_law_book", "_law_world"] (defScope s_law_lies) := ⟨rfl, rfl, rfl, by decide +kernel, rfl, by decide +kernel, by decide +kernel⟩
theorem ok_Lies {f : Addr} {fd : FuncData} (F : Fun K "_law_lies" "_law_lies" s_law_lies f fd) (T : Txt K mg CW CA CB CT CBad CPast CNot) (iT : mg "tuple" = none) (GLW : GFn P w K mg base CX0 1 "_law_where" ["_law_world", "_law_due"] spLWhere)
    (GWh : GMe P w K mg base (L2.CX P w) 2 CB "where" ["self", "number"] (spWhere CW CA CB CNot)) (GLy : GMe P w K mg base CX0 1 CB "lying" ["self", "level", "slot"] (spLying CW CA CB)) : FnOk P w K mg base CX0 3 f fd ["_law_book", "_law_world"] (spLies CW CA CB) := by
  obtain ⟨fLW, fdLW, gLW, kLW, bLW, GLW⟩ := GLW
  obtain ⟨fWh, fdWh, mWh, bWh, GWh⟩ := GWh
  obtain ⟨fLy, fdLy, mLy, bLy, GLy⟩ := GLy
  refine F.ok scLies (fun vs H Q E h => ?_) (fun cdv A outer s H vs Q E hr h => ?_)
  · obtain ⟨A, F, S, l, now, many, m, x, wa, ra, rfl, _⟩ := h
    rfl
  · obtain ⟨A, F, S, l, now, many, m, x, wa, ra, rfl, ⟨b, ahead⟩, W, gd, hm, k⟩ := h
    have hr1 : Room 1 _ := hr.mono (by decide)
    have hr2 : Room 2 _ := hr
    have hu := hu_of hr
    have hu64 := hr.units
    have hu9 : ∀ {A' : Around}, A'.units + 64 < cLine → A'.units + 9 < cLine := fun {A'} h => by omega
    have hu9 := hu9 hu64
    refine ⟨_, (pss_cons (ps_set (i := 2) scLies.nd rfl (Or.inl rfl) (pe_dnewM (w := w) rfl))
      (pss_cons (ps_for PassesOwn.never rfl (pi_list (pe_callB (cr_sortKD rfl) (by rfl) T.sorted (by decide +kernel) (pa_cons (pe_dget hu (pv 1) pe_str (fun _ _ => rfl)) pa_nil))) (pg_name (i := 3) scLies.nd rfl (Or.inl rfl)) (C8.pss_cut (ps_set (i := 4) scLies.nd rfl (Or.inl rfl) (pe_call GLW hr1 rfl gLW kLW bLW .nil pass0 (pa_cons (pv 1) (pa_cons (pe_ix ix_tup (pe_dget hu (pe_dget hu (pv 1) pe_str (fun _ _ => rfl)) (pv 3) (fun _ _ => rfl)) pe_int (fun _ _ => rfl)) pa_nil))))
      (C8.pss_cut (ps_set (i := 5) scLies.nd rfl (Or.inl rfl) (pe_meth (pv 0) T.clB mWh GWh hr2 bWh .nil passL (pa_cons (pv 3) pa_nil)))
      (pss_cons (ps_if (PW.pt (pw_or (pt_cmpR (op_neD hu64) (pv 5) (pv 4) (nomark _)) (pw_or1 (PW.pt (pw_and (pt_cmp (pc_notN (pv 4))) (pw_and1 (pt_not (pt_val (pe_callB call_isi (by rfl) T.isi (by decide +kernel) (pa_cons (pv 5) (pa_cons (pe_bltn (v := .ty "tuple") (u := .type "tuple") (by rfl) iT (by decide +kernel) rfl) pa_nil))))))))))) (pss_one (ps_ret pe_bl)) pss_nil)
      (pss_one (ps_expr (pe_bm PySem.F.plainAttrs_list PySem.F.slot_list_append PySem.F.type_list_append mt_append (pe_mm (w := w) rfl PySem.F.slot_dict_setdefault PySem.F.type_dict_setdefault (mt_setdM (w := w) rfl hu9) (pv 2) (pa_cons (pv 4) (pa_cons (pe_lst pa_nil) pa_nil))) (pa_cons (pv 3) pa_nil))))))))
      (pss_cons (ps_for PassesOwn.never rfl (pi_range1 rfl T.range (pa_cons (pe_dget hu (pv 1) pe_str (fun _ _ => rfl)) pa_nil)) (pg_name (i := 6) scLies.nd rfl (Or.inl rfl)) (pss_one (ps_for PassesOwn.never rfl (pi_range1 rfl T.range (pa_cons (pe_dget hu (pv 1) pe_str (fun _ _ => rfl)) pa_nil)) (pg_name (i := 7) scLies.nd rfl (Or.inl rfl)) (pss_one (ps_if (pt_cmpR (op_neD hu64) (pe_meth (pv 0) T.clB mLy GLy hr1 bLy .nil pass0 (pa_cons (pv 6) (pa_cons (pv 7) pa_nil))) (pe_mm (w := w) rfl PySem.F.slot_dict_get PySem.F.type_dict_get (mt_getM (w := w) rfl hu9) (pv 2) (pa_cons (pe_tup (pa_cons (pv 6) (pa_cons (pv 7) pa_nil))) (pa_cons (pe_lst pa_nil) pa_nil))) (nomark _)) (pss_one (ps_ret pe_bl)) pss_nil)))))
      (pss_one (ps_ret (pe_and (pe_cmpR (op_eqD hu64) (pe_meth (pv 0) T.clB mLy GLy hr1 bLy .nil pass0 (pa_cons (pe_dget hu (pv 1) pe_str (fun _ _ => rfl)) (pa_cons pe_int pa_nil))) (pe_lst pa_nil) (nomark _)) (pe_and (pe_cmpR (op_eqD hu64) (pe_meth (pv 0) T.clB mLy GLy hr1 bLy .nil pass0 (pa_cons pe_int (pa_cons (pe_dget hu (pv 1) pe_str (fun _ _ => rfl)) pa_nil))) (pe_lst pa_nil) (nomark _)) (pe_one (pe_cmpR (op_eqD hu64) (pe_meth (pv 0) T.clB mLy GLy hr1 bLy .nil pass0 (pa_cons (pe_un un_neg pe_int) (pa_cons pe_int pa_nil))) (pe_lst pa_nil) (nomark _)))))))))), ?_⟩
    obtain ⟨g1, g2, g3, g4⟩ := id gd
    intro D hD
    have s1 : Same H (upd H D (MD w D [])) := Same.new hD
    have W1 := W.same s1
    obtain ⟨ws1, D1⟩ := W1.w
    obtain ⟨ks1, k11, k12, k13⟩ := D1.nums
    have hws := D1.size (fun n a h => W1.bd n a (of_sel h).1) (by omega)
    refine ⟨_, rfl, x, _, rfl, by rw [← wkv_waits]; exact DGet.k (k := Sum.inr "waits") W1.ob, wa, ws1, ks1, rfl, D1.at_, k11, fun ns p2 pm2 srt2 hp2 => ?_⟩
    have rise : ns.Pairwise (· < ·) := strict_of srt2 (pm2.nodup_iff.mpr k12)
    have mem : ∀ n, n ∈ ns ↔ ∃ a, m n = some a ∧ a.rests = false := fun n => by rw [pm2.mem_iff, k13]
    have hlen : ns.length ≤ 1000 := by
      have h2 := pm2.length_eq
      have h3 := congrArg List.length k11
      rw [List.length_map, List.length_map] at h3
      omega
    have s2 : Same (upd H D (MD w D [])) (upd (upd H D (MD w D [])) p2 (.lst (ns.map V.int))) := Same.new hp2
    have eD : (upd (upd H D (MD w D [])) p2 (.lst (ns.map V.int))) D = some (MD w D []) := s2 _ _ upd_same
    have ep : (upd (upd H D (MD w D [])) p2 (.lst (ns.map V.int))) p2 = some (.lst (ns.map V.int)) := upd_same
    have nDp : p2 ≠ D := (ne_of eD ep (by intro z; cases z)).symm
    have s12 := s1.trans s2
    generalize upd (upd H D (MD w D [])) p2 (.lst (ns.map V.int)) = HB at eD ep s12 ⊢
    clear s2 hp2 D1 W1 s1
    have back : ∀ {H' : Hp} {es : MEs} {ad : MK → Addr} {done : List Int}, SlotsAt w HB H' D es ad (keyOf S l.toNat now m) done → Same H H' := fun {H'} {es} {ad} {done} st a o e => st.kp a o (fun z => by rw [z, hD] at e; cases e) (s12 a o e)
    -- the numbers are laid into their slots
    refine ⟨p2, rfl, ⟨_, SqL.of ep⟩, for_list (K := K) (a := p2) (xs := ns.map V.int) (fun i sg H' => ∃ (es : MEs) (ad : MK → Addr) (v3 v4 v5 : Option V), sg = [some (.ref A.x), some (.ref x), some (.ref D), v3, v4, v5, none, none] ∧ SlotsAt w HB H' D es ad (keyOf S l.toNat now m) (ns.take i)) ?_ ?_ ?_ ?_⟩
    · exact ⟨[], fun _ => D, none, none, none, rfl, eD, ⟨fun e h => (nomatch h), List.nodup_nil⟩, Nat.zero_le _, fun k _ => rfl, fun k h => absurd rfl h, fun k j h => absurd rfl h, fun a o _ e => e⟩
    · rintro i sg H' _ ⟨es, ad, v3, v4, v5, rfl, st⟩
      exact SqL.of (st.kp _ _ nDp ep)
    · rintro i y sg H' hi ⟨es, ad, v3, v4, v5, rfl, st⟩
      obtain ⟨n, hn, rfl⟩ : ∃ n, ns[i]? = some n ∧ V.int n = y := by
        rw [List.getElem?_map] at hi
        exact Option.map_eq_some_iff.mp hi
      obtain ⟨a, ha, har⟩ := (mem n).mp (List.mem_of_getElem? hn)
      have hk := keyOf_some (S := S) (L := l.toNat) (now := now) ha
      have W2 := W.same (back st)
      obtain ⟨ws2, D2⟩ := W2.w
      obtain ⟨t, q1, q2⟩ := D2.yes n a (by rw [sel_some ha, if_pos har])
      refine ⟨fun sg H2 => ∃ vd v5, sg = [some (.ref A.x), some (.ref x), some (.ref D), some (.int n), some vd, v5, none, none] ∧ Same H' H2 ∧ KeyV H2 (keyOf S l.toNat now m n) vd, ?_, ?_⟩
      · refine ⟨_, rfl, _, rfl, x, _, rfl, by rw [← wkv_waits]; exact DGet.k (k := Sum.inr "waits") W2.ob, _, rfl, wa, .ref t, rfl, by rw [← q1]; exact DGet.k (k := Sum.inl n) D2.at_, t, _, _, _, rfl, rfl, SqT.of q2, at_of (j := 1) rfl rfl, ?_⟩
        exact ⟨x, wa, ra, S, l, now, many, a.val, rfl, W2.ob, gd, fun h => ⟨_, _, rfl, Same.refl _, by rw [hk, h]; rfl⟩, fun kk h p hp => ⟨_, _, rfl, Same.new hp, by rw [hk, h]; exact ⟨p, rfl, upd_same⟩⟩⟩
      rintro sg H2 ⟨vd, v5, rfl, sa, kd⟩
      have st2 := st.same sa
      refine ⟨fun sg H3 => ∃ vf, sg = [some (.ref A.x), some (.ref x), some (.ref D), some (.int n), some vd, some vf, none, none] ∧ Same H2 H3 ∧ KeyV H3 (keyOf S l.toNat now m n) vf, ?_, ?_⟩
      · have b2 := b.same (back st2)
        refine ⟨_, rfl, A.x, A.dx, _, rfl, b2.ob, rfl, _, rfl, A, F, S, _, now, many, m, n, rfl, ⟨b2, ahead⟩, fun z => ?_, fun c hc => ⟨fun z => ?_, fun _ => ?_⟩⟩
        · rw [ha] at z
          cases z
        · rw [ha] at hc
          cases hc
          rw [har] at z
          cases z
        · rw [ha] at hc
          cases hc
          exact ⟨fun h => ⟨_, rfl, Same.refl _, by rw [hk, h]; rfl⟩, fun kk h p hp => ⟨_, rfl, Same.new hp, by rw [hk, h]; exact ⟨p, rfl, upd_same⟩⟩⟩
      rintro sg H3 ⟨vf, rfl, sb, kf⟩
      have st3 := st2.same sb
      have kd3 := kd.keep fun a xs e => sb _ _ e
      generalize hkk : keyOf S l.toNat now m n = kk at kd3 kf
      refine ⟨_, rfl, _, rfl, _, _, keyV_dp kf, keyV_dp kd3, mkD_shape _, mkD_shape _, ?_⟩
      rw [SeqAt.eqv_refl _ (SeqAt.canLay_of_shaped (mkD_shape kk))]
      refine ⟨_, rfl, iteF ⟨_, rfl, _, rfl, ?_⟩⟩
      have tk : ns.take (i + 1) = ns.take i ++ [n] := by
        rw [List.take_succ, hn]
        rfl
      have hle : (ns.take i).length ≤ 1000 := by
        rw [List.length_take]
        omega
      have app : ∀ (H4 : Hp), Same H3 H4 → (tBM K "list" rAppend (tMM w (rSetdM w) (tVar 2) (tCons (tVar 4) (tCons (tLst tNil) tNil))) (tCons (tVar 3) tNil)) [some (.ref A.x), some (.ref x), some (.ref D), some (.int n), some vd, some vf, none, none] H4 (fun _ H' => ∃ (es : MEs) (ad : MK → Addr) (v3 v4 v5 : Option V), [some (.ref A.x), some (.ref x), some (.ref D), some (.int n), some vd, some vf, none, none] = [some (.ref A.x), some (.ref x), some (.ref D), v3, v4, v5, none, none] ∧ SlotsAt w HB H' D es ad (keyOf S l.toNat now m) (ns.take (i + 1))) := fun H4 s4 => by
        have st4 := st3.same s4
        have kd4 := kd3.keep fun a xs e => s4 _ _ e
        refine ⟨_, rfl, ⟨D, es, rfl, st4.at_⟩, _, rfl, Nat.zero_le _, fun q hq => ?_⟩
        have sq : Same H4 (upd H4 q (.lst [])) := Same.new hq
        have st5 := st4.same sq
        have kd5 := kd4.keep fun a xs e => sq _ _ e
        have nqD : D ≠ q := ne_of_none st4.at_ hq
        refine ⟨D, es, kk, vd, .ref q, rfl, rfl, st5.at_, st5.ok, kd5, small1000 (Nat.le_trans st5.sz hle), fun v hv => ?_, fun hv => ?_⟩
        · by_cases c : selK (keyOf S l.toNat now m) kk (ns.take i) = []
          · rw [st5.no _ c] at hv
            cases hv
          obtain ⟨y1, y2, y3⟩ := st5.yes _ c
          rw [y1] at hv
          cases hv
          rw [tk]
          refine ⟨.inl ⟨rfl, _, SqL.of y2⟩, _, rfl, ad kk, _, _, rfl, rfl, y2, small1000 ?_, ?_⟩
          · rw [List.length_map]
            exact Nat.le_trans (List.length_filter_le _ _) hle
          · have := st5.old (n := n) (by rw [hkk]; exact c)
            rw [hkk] at this
            exact ⟨_, _, _, _, _, rfl, this⟩
        · by_cases c : selK (keyOf S l.toNat now m) kk (ns.take i) = []
          · rw [tk]
            refine ⟨.inl ⟨rfl, _, SqL.of (by rw [upd_ne nqD.symm]; exact upd_same)⟩, _, rfl, q, _, _, rfl, rfl, by rw [upd_ne nqD.symm]; exact upd_same, small1000 (by decide), ?_⟩
            have := st4.new (n := n) (q := q) (y := vd) (H' := upd (upd (upd H4 q (.lst [])) D (MD w D (es ++ [(kk, vd, V.ref q)]))) q (.lst ([] ++ [V.int n]))) (by rw [hkk]; exact c) hq (by rw [hkk]; exact kd4) (by rw [hkk, upd_ne nqD]; exact upd_same) upd_same fun a o z e => by
              rw [upd_ne (ne_of_none e hq), upd_ne z, upd_ne (ne_of_none e hq)]
              exact e
            rw [hkk] at this
            exact ⟨_, _, _, _, _, rfl, this⟩
          · rw [(st5.yes _ c).1] at hv
            cases hv
      cases hkv : kk with
      | none =>
        rw [hkv] at kd3
        cases (show vd = .non from kd3)
        refine iteF (iteF ?_)
        exact app H3 (Same.refl _)
      | some kp =>
        rw [hkv] at kd3 kf
        obtain ⟨td, rfl, etd⟩ := kd3
        obtain ⟨tf, rfl, etf⟩ := kf
        refine iteT ⟨_, rfl, .ref tf, _, _, _, true, rfl, .ty _, .base (.tup etf), kit_ty (by decide +kernel), _, rfl, iteF ?_⟩
        exact app H3 (Same.refl _)
    · rintro sg HE ⟨es, ad, v3, v4, v5, rfl, st⟩
      have hnl : ns.take (ns.map V.int).length = ns := by rw [List.length_map, List.take_length]
      rw [hnl] at st
      have sE := back st
      have WE := W.same sE
      have bE := b.same sE
      -- what lies in a slot
      have lies : ∀ (l' sl : Int) (ns' : List Int), ns'.Pairwise (· < ·) → (∀ n, n ∈ ns' ↔ ∃ d, Wt m (d, n) ∧ place S l.toNat now d = some (l', sl)) → ns' = selK (keyOf S l.toNat now m) (some (l', sl)) ns := fun l' sl ns' h1 h2 => by
        refine sel_eq rise h1 fun n => ?_
        rw [h2, mem]
        constructor
        · rintro ⟨d, ⟨a, a1, a2, a3⟩, h⟩
          refine ⟨⟨a, a1, a2⟩, ?_⟩
          rw [keyOf_some a1, show a.val = d from a3]
          exact h
        · rintro ⟨⟨a, a1, a2⟩, h⟩
          rw [keyOf_some a1] at h
          exact ⟨a.val, ⟨a, a1, a2, rfl⟩, h⟩
      have none_ : ∀ (l' sl : Int) (ns' : List Int), (∀ n, n ∈ ns' ↔ ∃ d, Wt m (d, n) ∧ place S l.toNat now d = some (l', sl)) → ¬ (0 ≤ l' ∧ l' < l ∧ 0 ≤ sl ∧ sl < S) → ns' = [] := fun l' sl ns' h hn => by
        cases ns' with
        | nil => rfl
        | cons n r =>
          obtain ⟨d, _, hp⟩ := (h n).mp List.mem_cons_self
          have := place_slot (by omega) hp
          simp only at this
          exact absurd ⟨this.1, by omega, this.2.2.1, this.2.2.2⟩ hn
      refine ⟨_, rfl, x, _, rfl, by rw [← wkv_levels]; exact DGet.k (k := Sum.inr "levels") WE.ob, l, rfl, by omega, by omega, for_range (lo := 0) (n := l.toNat) (fun i sg H' => ∃ v3 v4 v5 v6 v7, sg = [some (.ref A.x), some (.ref x), some (.ref D), v3, v4, v5, v6, v7] ∧ Same HE H') ⟨_, _, _, _, _, rfl, Same.refl _⟩ ?_ ?_⟩
      · rintro i sg H1 hi ⟨v3, v4, v5, v6, v7, rfl, s1⟩
        refine ⟨_, rfl, x, _, rfl, by rw [← wkv_slots]; exact DGet.k (k := Sum.inr "slots") (s1 _ _ WE.ob), S, rfl, by omega, by omega, for_range (lo := 0) (n := S.toNat) (fun j sg H' => ∃ v3 v4 v5 v7, sg = [some (.ref A.x), some (.ref x), some (.ref D), v3, v4, v5, some (.int (0 + (i : Int))), v7] ∧ Same HE H') ⟨_, _, _, _, rfl, s1⟩ ?_ ?_⟩
        · rintro j sg H2 hj ⟨v3, v4, v5, v7, rfl, s2⟩
          have b2 := bE.same s2
          refine ⟨_, rfl, A.x, A.dx, _, rfl, b2.ob, rfl, _, rfl, _, rfl, A, F, S, l.toNat, now, many, m, 0 + (i : Int), 0 + (j : Int), rfl, ⟨b2, ahead⟩, by omega, fun p H3 ns' hp s3 e3 r3 m3 => ?_⟩
          have st3 := st.same (s2.trans s3)
          have en := lies _ _ ns' r3 m3
          refine ⟨_, rfl, ⟨D, es, rfl, st3.at_⟩, _, rfl, _, rfl, (by show 2 ≤ sizeLine; decide), fun u hu' => ⟨Nat.zero_le _, fun d hd => ?_⟩⟩
          have s4 := (Same.new (o := .tup [.int (0 + (i : Int)), .int (0 + (j : Int))]) hu').trans (Same.new (o := .lst []) hd)
          have st4 := st3.same s4
          refine ⟨D, es, some (0 + (i : Int), 0 + (j : Int)), .ref u, .ref d, rfl, rfl, st4.at_, st4.ok, ⟨u, rfl, Same.new (o := .lst []) hd _ _ upd_same⟩, ?_⟩
          have s14 := (s2.trans s3).trans s4
          have ed4 : (upd (upd H3 u (.tup [.int (0 + (i : Int)), .int (0 + (j : Int))])) d (.lst [])) d = some (.lst []) := upd_same
          have e4 := s4 _ _ e3
          generalize upd (upd H3 u (.tup [.int (0 + (i : Int)), .int (0 + (j : Int))])) d (.lst []) = H4 at st4 ed4 e4 s14 ⊢
          obtain ⟨r, er, hr'⟩ : ∃ r : Addr, (lookM es (some (0 + (i : Int), 0 + (j : Int)))).getD (.ref d) = .ref r ∧ H4 r = some (.lst (ns'.map V.int)) := by
            by_cases c : selK (keyOf S l.toNat now m) (some (0 + (i : Int), 0 + (j : Int))) ns = []
            · rw [st4.no _ c, en, c]
              exact ⟨d, rfl, ed4⟩
            · obtain ⟨y1, y2, _⟩ := st4.yes _ c
              rw [y1, en]
              exact ⟨_, rfl, y2⟩
          rw [er]
          refine ⟨_, _, .lst (SqL.of e4) (ints_dp _), .lst (SqL.of hr') (ints_dp _), ints_shape _, ints_shape _, ?_⟩
          rw [SeqAt.eqv_refl _ (SeqAt.canLay_of_shaped (ints_shape _))]
          exact ⟨_, rfl, iteF ⟨_, _, _, _, rfl, s14⟩⟩
        · rintro sg H2 ⟨v3, v4, v5, v7, rfl, s2⟩
          exact ⟨_, _, _, _, _, rfl, s2⟩
      · rintro sg H1 ⟨v3, v4, v5, v6, v7, rfl, s1⟩
        have b1 := bE.same s1
        have W1 := WE.same s1
        refine ⟨_, rfl, A.x, A.dx, _, rfl, b1.ob, rfl, _, rfl, x, _, rfl, by rw [← wkv_levels]; exact DGet.k (k := Sum.inr "levels") W1.ob, A, F, S, l.toNat, now, many, m, l, 0, rfl, ⟨b1, ahead⟩, by omega, fun p1 H2 n1 hp1 s2 e2 _ m2 => ?_⟩
        have z1 := none_ _ _ _ m2 (by omega)
        subst z1
        refine ⟨Nat.zero_le _, fun d1 hd1 => ⟨_, _, .lst (SqL.of (Same.new (o := .lst []) hd1 _ _ e2)) (ints_dp _), .lst (SqL.of upd_same) .nil, ints_shape _, rfl, _, rfl, iteT ?_⟩⟩
        have s3 := s2.trans (Same.new (o := .lst []) hd1)
        have b3 := b1.same s3
        have W3 := W1.same s3
        have sx3 := (sE.trans s1).trans s3
        generalize upd H2 d1 (.lst []) = H3 at b3 W3 sx3 ⊢
        refine ⟨_, rfl, A.x, A.dx, _, rfl, b3.ob, rfl, _, rfl, x, _, rfl, by rw [← wkv_slots]; exact DGet.k (k := Sum.inr "slots") W3.ob, A, F, S, l.toNat, now, many, m, 0, S, rfl, ⟨b3, ahead⟩, by omega, fun p4 H4 n4 hp4 s4 e4 _ m4 => ?_⟩
        have z4 := none_ _ _ _ m4 (by omega)
        subst z4
        refine ⟨Nat.zero_le _, fun d4 hd4 => ⟨_, _, .lst (SqL.of (Same.new (o := .lst []) hd4 _ _ e4)) (ints_dp _), .lst (SqL.of upd_same) .nil, ints_shape _, rfl, _, rfl, iteT ?_⟩⟩
        have s5 := s4.trans (Same.new (o := .lst []) hd4)
        have b5 := b3.same s5
        have sx5 := sx3.trans s5
        generalize upd H4 d4 (.lst []) = H5 at b5 sx5 ⊢
        refine ⟨_, rfl, A.x, A.dx, _, rfl, b5.ob, rfl, _, rfl, A, F, S, l.toNat, now, many, m, -1, 0, rfl, ⟨b5, ahead⟩, by omega, fun p6 H6 n6 hp6 s6 e6 _ m6 => ?_⟩
        have z6 := none_ _ _ _ m6 (by omega)
        subst z6
        refine ⟨Nat.zero_le _, fun d6 hd6 => ⟨_, _, .lst (SqL.of (Same.new (o := .lst []) hd6 _ _ e6)) (ints_dp _), .lst (SqL.of upd_same) .nil, ints_shape _, rfl, ?_⟩⟩
        exact k _ ((sx5.trans s6).trans (Same.new (o := .lst []) hd6))
end
end L2.TK
set_option Elab.async false
set_option linter.all false
set_option maxRecDepth 100000
set_option maxHeartbeats 8000000
namespace L2.TK
open PySem TkM
/-- where(number) of one that does not wait is refused -/
def spLNone (CW CA CB : Addr) : Sp := fun vs H Q _ => ∃ (A : BA) (F : Addr → Prop) (S : Int) (L : Nat) (now many : Int) (m : Mp Str) (n : Int), vs = [.ref A.x, .int n] ∧ Bk CW CA CB H F A S L now many m ∧ (∀ a, m n = some a → a.rests = true) ∧ ∀ H', Same H H' → Q (.bl true) H'
section
variable {P : Program} {w : World} {K : PySem.W.Frag} {mg : Str → Option Value} {base : Heap} {CW CA CB CT CBad CPast CNot : Addr}
theorem scLNone : FnScope ["_law_book", "_law_number", "_law_kept", "e"] ["_law_book", "_law_number"] (defScope s_law_none) := ⟨rfl, rfl, rfl, by decide +kernel, rfl, by decide +kernel, by decide +kernel⟩
theorem ok_LNone {f : Addr} {fd : FuncData} (F : Fun K "_law_none" "_law_none" s_law_none f fd) (T : Txt K mg CW CA CB CT CBad CPast CNot) (N : Kin K CBad CPast CNot)
    (GWh : GMe P w K mg base (L2.CX P w) 2 CB "where" ["self", "number"] (spWhere CW CA CB CNot)) : FnOk P w K mg base CX0 3 f fd ["_law_book", "_law_number"] (spLNone CW CA CB) := by
  obtain ⟨fWh, fdWh, mWh, bWh, GWh⟩ := GWh
  refine F.ok scLNone (fun vs H Q E h => ?_) (fun cdv A outer s H vs Q E hr h => ?_)
  · obtain ⟨A, F, S, L, now, many, m, n, rfl, _⟩ := h
    rfl
  · obtain ⟨A, F, S, L, now, many, m, n, rfl, ⟨b, ahead⟩, hn, k⟩ := h
    have hr2 : Room 2 _ := hr
    refine ⟨_, pss_cons (ps_set (i := 2) scLNone.nd rfl (Or.inl rfl) pe_non)
      (C8.pss_cut (ps_try_keep (i := 3) (Wout := fun _ _ _ _ => False) rfl rfl rfl scLNone.nd rfl rfl ⟨rfl, by decide, Or.inl T.mgT⟩ takes0
        (fun W pn xe tk _ => pss_one (ps_expr (pe_methS (pv 0) T.clB mWh GWh hr2 bWh (fun sg => passAt tk sg) (pa_cons (pv 1) pa_nil))))
        (fun a oe cls d pn hz hf => pss_one (ps_set (i := 2) scLNone.nd rfl (Or.inl rfl) (pv 3))))
      (pss_one (ps_ret (pe_callB call_isVX (by rfl) T.isi (by decide +kernel) (pa_cons (pv 2) (pa_cons (pe_glob (v := .ref CNot) rfl T.nott.g rfl) pa_nil)))))), ?_⟩
    refine ⟨fun sg H' => ∃ a, sg = [some (.ref A.x), some (.int n), some (.ref a), none] ∧ H' a = some (ExV (.ref CNot) a) ∧ Same H H', ?_, ?_⟩
    · have no : ∃ b, PySem.W.exmOne K (.ref CNot) (.ref CT) = some b ∧ (b = true → (none : Option Addr) = none ∧ ∀ a, H a = none → ∃ v, [some (V.ref A.x), some (V.int n), some V.non, some (V.ref a)][3]? = some (some v) ∧ (H a = none → ∃ a', [some (V.ref A.x), some (V.int n), some v, none] = [some (V.ref A.x), some (V.int n), some (V.ref a'), none] ∧ (upd H a (ExV (.ref CNot) a)) a' = some (ExV (.ref CNot) a') ∧ Same H (upd H a (ExV (.ref CNot) a)))) ∧ (b = false → False) :=
        ⟨true, T.nott.tick, fun _ => ⟨rfl, fun a ha => ⟨_, rfl, fun ha2 => ⟨a, rfl, upd_same, Same.new ha2⟩⟩⟩, fun z => nomatch z⟩
      refine ⟨_, rfl, A.x, A.dx, _, rfl, b.ob, rfl, _, rfl, A, F, S, L, now, many, m, n, rfl, ⟨b, ahead⟩, fun _ => no, fun a ha => ⟨fun _ => no, fun h => ?_⟩⟩
      rw [hn a ha] at h
      cases h
    · rintro sg H2 ⟨a, rfl, ea, s⟩
      refine ⟨_, rfl, CNot, T.nott.isC, a, _, _, true, rfl, ea, fun u hu => hu, N.nn, ?_⟩
      exact k _ s
end
end L2.TK
set_option Elab.async false
set_option linter.all false
set_option maxRecDepth 100000
set_option maxHeartbeats 8000000
namespace L2.TK
open PySem TkM
def spTrue (K : PySem.W.Frag) : Sp := fun vs H Q _ => ∃ (a : Addr) (ns : List Int), vs = [.ref a] ∧ SqL K H a (ns.map V.int) ∧ ns.length ≤ 63 ∧ ∀ H', Q (.bl true) H'
def Scr (K : PySem.W.Frag) (H : Hp) (G : Addr → Prop) (a : Addr) (xs : List V) : Prop := (Rd H a (.lst xs) ∧ ¬ G a) ∨
  ∃ (o : Obj) (its : Array Value) (n : Nat), K.lookup a = some o ∧ o.cls = .type "list" ∧ o.dict = none ∧ o.data = .seq its n ∧ its.size ≤ sizeLine ∧ Vals xs its.toList
theorem Scr.sq {K : PySem.W.Frag} {H : Hp} {G : Addr → Prop} {a : Addr} {xs : List V} (h : Scr K H G a xs) : SqL K H a xs := h.imp (fun h => h.1) id
theorem Scr.go {K : PySem.W.Frag} {H H' : Hp} {G G' : Addr → Prop} {a : Addr} {xs : List V} (h : Scr K H G a xs) (k : ∀ b o, H b = some o → ¬ G b → H' b = some o ∧ ¬ G' b) : Scr K H' G' a xs :=
  h.imp (fun ⟨h, n⟩ => by
    rcases h with h | ⟨o, h⟩
    · obtain ⟨e1, e2⟩ := k _ _ h n
      exact ⟨.inl e1, e2⟩
    · obtain ⟨e1, e2⟩ := k _ _ h n
      exact ⟨.inr ⟨o, e1⟩, e2⟩) id
theorem ch_made {H H1 : Hp} {F : Addr → Prop} {x dx : Addr} {C : Addr} (nx : H x = none) (ndx : H dx = none) (c : Ch (fun a => a = x) F (upd (upd H dx (.own x)) x (.ins C dx [])) H1) : Ch (fun _ => False) F H H1 := by
  have st : ∀ a, (upd (upd H dx (.own x)) x (.ins C dx [])) a = none → H a = none := fun a h => by
    by_cases z : a = x
    · rw [z]
      exact nx
    · rw [upd_ne z] at h
      by_cases z2 : a = dx
      · rw [z2]
        exact ndx
      · rw [upd_ne z2] at h
        exact h
  refine ⟨fun a o e _ => c.kp a o ?_ (ne_of_none e nx), fun a h => .inr ?_, fun a h => st a (c.st a h)⟩
  · rw [upd_ne (ne_of_none e nx), upd_ne (ne_of_none e ndx)]
    exact e
  · rcases c.gr a h with z | z
    · rw [z]
      exact nx
    · exact st a z
def NmOk (m : Mp Str) : Prop := ∀ n a, m n = some a → NmG a.name
def OkW : Out → Prop
  | .non => True
  | .int _ => True
  | .str s => NmG s
  | .told T => ∀ x ∈ T, NmG x.2.2
theorem OkW.ok {o : Out} (h : OkW o) : OkO o := by
  cases o with
  | non => trivial
  | int n => trivial
  | str s => exact h.1
  | told T => exact fun x hx => (h x hx).1
theorem OkW.wrong {o : Out} (h : OkW o) : PyData.eqv (outD o) (.str "wrong") = false := by
  cases o with
  | non => rfl
  | int n => rfl
  | str s =>
    have := h.2
    simpa [outD, PyData.eqv] using this
  | told T => rfl
theorem StB.stp {m : Mp Str} (h : StB m) : Stp m := fun n a s e1 e2 => (h n a s e1 e2).1
theorem set_case {m : Mp Str} {n j : Int} {o : Option (Al Str)} {b : Al Str} {P : Al Str → Prop} (h : setM m n o j = some b) (h1 : ∀ a, o = some a → P a) (h2 : ∀ a, m j = some a → P a) : P b := by
  by_cases e : j = n
  · subst e
    rw [setM_same] at h
    exact h1 b h
  · rw [setM_ne e] at h
    exact h2 b h
theorem adv_case {m : Mp Str} {g j : Int} {b : Al Str} (h : adv m g j = some b) : ∃ a, m j = some a ∧ b.name = a.name ∧ b.step = a.step ∧ b.rests = a.rests ∧ (a.rests = true → b.val = a.val) := by
  unfold adv at h
  cases e : m j with
  | none =>
    rw [e] at h
    cases h
  | some a =>
    rw [e] at h
    have h : advA g a = some b := h
    unfold advA at h
    by_cases c : a.rests = true ∨ g < a.val
    · rw [if_pos c] at h
      have h := Option.some.inj h
      subst h
      exact ⟨_, rfl, rfl, rfl, rfl, fun _ => rfl⟩
    · rw [if_neg c] at h
      cases es : a.step with
      | none =>
        rw [es] at h
        cases h
      | some s =>
        rw [es] at h
        have h := Option.some.inj h
        subst h
        exact ⟨a, rfl, rfl, es.symm, rfl, fun z => absurd (.inl z) c⟩
theorem Does.inv {now many : Int} {m : Mp Str} {d : Deed} {o : Out} {n1 k1 : Int} {m1 : Mp Str} (h : Does now many m d o n1 k1 m1) (g : GoodD now m d) (hs : StB m) (hr : Rs m) (hn : NmOk m) (ha : ∀ p, Wt m p → now < p.1) :
    StB m1 ∧ Rs m1 ∧ NmOk m1 ∧ many ≤ k1 ∧ k1 ≤ many + 1 ∧ OkW o := by
  have past : NmG ("past" : Str) := ⟨by decide +kernel, by decide +kernel⟩
  have there : NmG ("there" : Str) := ⟨by decide +kernel, by decide +kernel⟩
  cases h with
  | setPast h => exact ⟨hs, hr, hn, by omega, by omega, past⟩
  | @setOk due st nm h1 h2 =>
    obtain ⟨q1, q2⟩ := g.2 due st nm rfl
    refine ⟨fun n a s e1 e2 => ?_, fun n a e1 e2 => ?_, fun n a e1 => ?_, by omega, by omega, trivial⟩
    · exact set_case (P := fun a => a.step = some s → 1 ≤ s ∧ s < 2 ^ 60) e1 (fun b z z2 => by cases z; exact ⟨h2 s z2, q2 s z2⟩) (fun b z => hs n b s z) e2
    · exact set_case (P := fun a => a.rests = true → 1 ≤ a.val) e1 (fun b z z2 => by cases z; cases z2) (fun b z => hr n b z) e2
    · exact set_case (P := fun a => NmG a.name) e1 (fun b z => by cases z; exact q1) (fun b z => hn n b z)
  | passPast h => exact ⟨hs, hr, hn, by omega, by omega, past⟩
  | passOk h ht =>
    refine ⟨fun n a s e1 e2 => ?_, fun n a e1 e2 => ?_, fun n a e1 => ?_, by omega, by omega, fun y hy => ?_⟩
    · obtain ⟨b, b1, b2, b3, b4, b5⟩ := adv_case e1
      exact hs n b s b1 (by rw [← b3]; exact e2)
    · obtain ⟨b, b1, b2, b3, b4, b5⟩ := adv_case e1
      rw [b4] at e2
      rw [b5 e2]
      exact hr n b b1 e2
    · obtain ⟨b, b1, b2, b3, b4, b5⟩ := adv_case e1
      rw [b2]
      exact hn n b b1
    · obtain ⟨⟨a, a1, _, a3, _⟩, _⟩ := (ht.mem y).mp hy
      rw [a3]
      exact hn _ a a1
  | moveNo h => exact ⟨hs, hr, hn, by omega, by omega, there⟩
  | movePast h hd => exact ⟨hs, hr, hn, by omega, by omega, past⟩
  | @moveOk n due a h hd =>
    obtain ⟨h1, h2⟩ := of_sel h
    refine ⟨fun j b s e1 e2 => ?_, fun j b e1 e2 => ?_, fun j b e1 => ?_, by omega, by omega, trivial⟩
    · exact set_case (P := fun a => a.step = some s → 1 ≤ s ∧ s < 2 ^ 60) e1 (fun b z z2 => by cases z; exact hs n a s h1 z2) (fun b z => hs j b s z) e2
    · exact set_case (P := fun a => a.rests = true → 1 ≤ a.val) e1 (fun b z z2 => by cases z; rw [show _ = _ from z2] at h2; cases h2) (fun b z => hr j b z) e2
    · exact set_case (P := fun a => NmG a.name) e1 (fun b z => by cases z; exact hn n a h1) (fun b z => hn j b z)
  | backNo h => exact ⟨hs, hr, hn, by omega, by omega, there⟩
  | @backOk n due a h =>
    refine ⟨fun j b s e1 e2 => ?_, fun j b e1 e2 => ?_, fun j b e1 => ?_, by omega, by omega, hn n a h⟩
    · exact set_case (P := fun a => a.step = some s → 1 ≤ s ∧ s < 2 ^ 60) e1 (fun b z => by cases z) (fun b z => hs j b s z) e2
    · exact set_case (P := fun a => a.rests = true → 1 ≤ a.val) e1 (fun b z => by cases z) (fun b z => hr j b z) e2
    · exact set_case (P := fun a => NmG a.name) e1 (fun b z => by cases z) (fun b z => hn j b z)
  | restNo h => exact ⟨hs, hr, hn, by omega, by omega, there⟩
  | @restOk n due a h =>
    obtain ⟨h1, h2⟩ := of_sel h
    have h3 := ha (a.val, n) ⟨a, h1, h2, rfl⟩
    simp only at h3
    refine ⟨fun j b s e1 e2 => ?_, fun j b e1 e2 => ?_, fun j b e1 => ?_, by omega, by omega, trivial⟩
    · exact set_case (P := fun a => a.step = some s → 1 ≤ s ∧ s < 2 ^ 60) e1 (fun b z z2 => by cases z; exact hs n a s h1 z2) (fun b z => hs j b s z) e2
    · exact set_case (P := fun a => a.rests = true → 1 ≤ a.val) e1 (fun b z z2 => by cases z; show 1 ≤ a.val - now; omega) (fun b z => hr j b z) e2
    · exact set_case (P := fun a => NmG a.name) e1 (fun b z => by cases z; exact hn n a h1) (fun b z => hn j b z)
  | onNo h => exact ⟨hs, hr, hn, by omega, by omega, there⟩
  | @onOk n due a h =>
    obtain ⟨h1, h2⟩ := of_sel h
    refine ⟨fun j b s e1 e2 => ?_, fun j b e1 e2 => ?_, fun j b e1 => ?_, by omega, by omega, trivial⟩
    · exact set_case (P := fun a => a.step = some s → 1 ≤ s ∧ s < 2 ^ 60) e1 (fun b z z2 => by cases z; exact hs n a s h1 z2) (fun b z => hs j b s z) e2
    · exact set_case (P := fun a => a.rests = true → 1 ≤ a.val) e1 (fun b z z2 => by cases z; cases z2) (fun b z => hr j b z) e2
    · exact set_case (P := fun a => NmG a.name) e1 (fun b z => by cases z; exact hn n a h1) (fun b z => hn j b z)
theorem WO.ch {H H' : Hp} {F F' : Addr → Prop} {x wa ra : Addr} {S l now many : Int} {m : Mp Str} (W : WO H x wa ra S l now many m) (c : Ch F F' H H') (own : ∀ a, F a → Mut (H a)) (nx : ¬ F x) (nw : ¬ F wa) (nr : ¬ F ra) : WO H' x wa ra S l now many m := by
  obtain ⟨ws, w⟩ := W.w
  obtain ⟨rs, r⟩ := W.r
  exact ⟨c.kp _ _ W.ob nx, ⟨ws, w.keep (c.kp _ _ w.at_ nw) (c.tup own)⟩, ⟨rs, r.keep (c.kp _ _ r.at_ nr) (c.tup own)⟩, W.n1, W.n2, W.n3, W.bd⟩
theorem WO.outs {H H' : Hp} {F F' : Addr → Prop} {x wa ra : Addr} {S l now many : Int} {m : Mp Str} (W : WO H x wa ra S l now many m) (c : Ch F F' H H') (nx : ¬ F x) (nw : ¬ F wa) (nr : ¬ F ra) : ¬ F' x ∧ ¬ F' wa ∧ ¬ F' ra := by
  obtain ⟨ws, w⟩ := W.w
  obtain ⟨rs, r⟩ := W.r
  exact ⟨c.out W.ob nx, c.out w.at_ nw, c.out r.at_ nr⟩
theorem WO.own {H : Hp} {x wa ra : Addr} {S l now many : Int} {m : Mp Str} (W : WO H x wa ra S l now many m) : ∀ a, GG x wa ra a → Mut (H a) := fun a h => by
  obtain ⟨ws, w⟩ := W.w
  obtain ⟨rs, r⟩ := W.r
  rcases h with rfl | rfl | rfl
  · rw [W.ob]
    trivial
  · rw [w.at_]
    trivial
  · rw [r.at_]
    trivial
section
variable {P : Program} {w : World} {K : PySem.W.Frag} {mg : Str → Option Value} {base : Heap} {CW CA CB CT CBad CPast CNot : Addr}
abbrev nmLaw : List Str := ["_law_script", "_law_slots", "_law_levels", "_law_book", "_law_world", "_law_k", "_law_deed_here", "_law_number"]
theorem scLaw : FnScope nmLaw ["_law_script"] (defScope s_law) := ⟨rfl, rfl, rfl, by decide +kernel, rfl, by decide +kernel, by decide +kernel⟩
theorem ok_Law {f : Addr} {fd : FuncData} (F : Fun K "law" "law" s_law f fd) (T : Txt K mg CW CA CB CT CBad CPast CNot) (iA : mg "all" = none)
    (GX : GFn P w K mg base CX0 2 "_law_mix" ["_law_script", "_law_k"] (spMix K)) (GW : GFn P w K mg base CX0 3 "_law_wheels" ["_law_script", "_law_k"] (spLW K)) (GNw : GFn P w K mg base CX0 1 "_law_new" ["_law_slots", "_law_levels"] spNew)
    (GDe : GFn P w K mg base CX0 4 "_law_deed" ["_law_script", "_law_k", "_law_world"] (spDeed K)) (GA : GFn P w K mg base CX0 6 "_law_asked" ["_law_book", "_law_deed_here"] (spAsked CW CA CB))
    (GDn : GFn P w K mg base CX0 2 "_law_done" ["_law_world", "_law_deed_here"] spDone) (GL : GFn P w K mg base CX0 3 "_law_lies" ["_law_book", "_law_world"] (spLies CW CA CB)) (GNn : GFn P w K mg base CX0 3 "_law_none" ["_law_book", "_law_number"] (spLNone CW CA CB))
    (GB : GMk P w K mg base (L2.CX P w) 3 CB ["self", "slots", "levels"] (spBInit CW CA CB CBad)) : FnOk P w K mg base CX0 20 f fd ["_law_script"] (spTrue K) := by
  obtain ⟨fX, fdX, gX, kX, bX, GX⟩ := GX
  obtain ⟨fW, fdW, gW, kW, bW, GW⟩ := GW
  obtain ⟨fNw, fdNw, gNw, kNw, bNw, GNw⟩ := GNw
  obtain ⟨fDe, fdDe, gDe, kDe, bDe, GDe⟩ := GDe
  obtain ⟨fA, fdA, gA, kA, bA, GA⟩ := GA
  obtain ⟨fDn, fdDn, gDn, kDn, bDn, GDn⟩ := GDn
  obtain ⟨fL, fdL, gL, kL, bL, GL⟩ := GL
  obtain ⟨fNn, fdNn, gNn, kNn, bNn, GNn⟩ := GNn
  obtain ⟨fB, fdB, mB, bB, GB⟩ := GB
  refine F.ok scLaw (fun vs H Q E h => ?_) (fun cdv A outer s H vs Q E hr h => ?_)
  · obtain ⟨a, ns, rfl, _⟩ := h
    rfl
  · obtain ⟨a, ns, rfl, hS, hl, q⟩ := h
    have hu := hu_of hr
    have hu64 := hr.units
    have hr1 : Room 1 _ := hr.mono (by decide)
    have hr2 : Room 2 _ := hr.mono (by decide)
    have hr3 : Room 3 _ := hr.mono (by decide)
    have hr4 : Room 4 _ := hr.mono (by decide)
    have hr6 : Room 6 _ := hr.mono (by decide)
    have hrB : Room 4 _ := hr4
    refine ⟨_, (pss_cons (ps_asg (pe_call GW hr3 rfl gW kW bW .nil pass0 (pa_cons (pv 0) (pa_cons pe_int pa_nil))) (pg_tup (by rfl) (pgs_cons (pg_name (i := 1) scLaw.nd rfl (Or.inl rfl)) (pgs_cons (pg_name (i := 2) scLaw.nd rfl (Or.inl rfl)) pgs_nil))))
      (pss_cons (ps_set (i := 3) scLaw.nd rfl (Or.inr rfl) (pe_make mB GB hrB rfl T.mgB bB .nil passL (pa_cons (pv 1) (pa_cons (pv 2) pa_nil))))
      (pss_cons (ps_set (i := 4) scLaw.nd rfl (Or.inl rfl) (pe_call GNw hr1 rfl gNw kNw bNw .nil pass0 (pa_cons (pv 1) (pa_cons (pv 2) pa_nil))))
      (pss_cons (ps_for PassesOwn.never rfl (pi_range1 rfl T.range (pa_cons (pe_op op_modN (pe_call GX hr2 rfl gX kX bX .nil pass0 (pa_cons (pv 0) (pa_cons pe_int pa_nil))) pe_int) pa_nil)) (pg_name (i := 5) scLaw.nd rfl (Or.inl rfl)) (pss_cons (ps_set (i := 6) scLaw.nd rfl (Or.inl rfl) (pe_call GDe hr4 rfl gDe kDe bDe .nil pass0 (pa_cons (pv 0) (pa_cons (pe_op op_add pe_int (pe_op op_mul pe_int (pv 5))) (pa_cons (pv 4) pa_nil)))))
      (pss_cons (ps_expr (pe_call GDn hr2 rfl gDn kDn bDn .nil pass0 (pa_cons (pv 4) (pa_cons (pv 6) pa_nil))))
      (pss_one (ps_if (PW.pt (pw_or (pt_cmpR (op_eqD hu64) (pe_call GA hr6 rfl gA kA bA .nil pass0 (pa_cons (pv 3) (pa_cons (pv 6) pa_nil))) pe_str (nomark _)) (pw_or1 (pt_not (pt_val (pe_call GL hr3 rfl gL kL bL .nil pass0 (pa_cons (pv 3) (pa_cons (pv 4) pa_nil)))))))) (pss_one (ps_ret pe_bl)) pss_nil)))))
      (pss_one (ps_ret (pe_and (pe_call GNn hr3 rfl gNn kNn bNn .nil pass0 (pa_cons (pv 3) (pa_cons pe_int pa_nil))) (pe_one (pe_callB (cr_all rfl) (by rfl) iA (by decide +kernel) (pa_cons (pe_lock (pe_lc (own := [("_law_number", 7)]) (g := gName 7) (tt := tYes) (te := tCall (spLNone CW CA CB) [] E0 (tCons (tVar 3) (tCons (tVar 7) tNil))) rfl scLaw.nd (pi_keys (pe_dget hu (pv 4) pe_str (fun _ _ => rfl)))
 (blkOk_by (own := [("_law_number", 7)]) (N := nmLaw) (sc := defScope s_law) (by decide +kernel)) (fun _ _ _ _ _ => pg_name (i := 7) scLaw.nd rfl (Or.inl rfl)) (fun _ _ _ _ _ => pts_nil)
 (fun _ _ _ _ _ => (pe_call GNn hr3 rfl gNn kNn bNn .nil pass0 (pa_cons (pv 3) (pa_cons (pv 7) pa_nil)))))) pa_nil)))))))))), ?_⟩
    refine ⟨_, rfl, a, ns, 0, rfl, hS, hl, fun S l p0 H1 gd s1 e1 => ?_⟩
    refine ⟨p0, _, rfl, SqT.of e1, rfl, _, _, rfl, _, _, rfl, rfl, ?_⟩
    obtain ⟨g1, g2, g3, g4⟩ := gd
    refine ⟨_, rfl, _, rfl, fun xb dx nx ndx nex => ⟨xb, dx, S, l, rfl, upd_same, fun hbad => absurd ⟨g1, g2, g3, g4⟩ hbad, fun _ A0 F0 H2 ex0 b2 C2 => ⟨rfl, ?_⟩⟩⟩
    have C2 := ch_made nx ndx C2
    refine ⟨_, rfl, _, rfl, S, l, rfl, fun x wa ra H3 hx hwa hra n1 n2 n3 s3 ex3 ewa era => ?_⟩
    have nF : ∀ b, H2 b = none → ¬ F0 b := fun b e z => by
      have := b2.1.own b z
      rw [e] at this
      exact this
    have b3 := b2.1.same s3
    have W3 : WO H3 x wa ra S l 0 0 (fun _ => none) := ⟨ex3, ⟨[], ewa, List.nodup_nil, fun e h => (nomatch h), fun n _ => valV_nil, fun n a h => (by cases h)⟩, ⟨[], era, List.nodup_nil, fun e h => (nomatch h), fun n _ => valV_nil, fun n a h => (by cases h)⟩, n1, n2, n3, fun n a h => (by cases h)⟩
    have Sc : Scr K H3 (fun b => F0 b ∨ GG x wa ra b) a (ns.map V.int) := by
      have hS1 : Scr K H1 (fun _ => False) a (ns.map V.int) := (show Rd H1 a (.lst (ns.map V.int)) ∨ _ from sqKeep hS s1).imp (fun z => ⟨z, fun z => z⟩) id
      refine hS1.go fun b o e _ => ?_
      have e2 := C2.old b o e
      refine ⟨s3 _ _ e2, ?_⟩
      rintro (z | rfl | rfl | rfl)
      · rcases C2.gr b z with z | z
        · exact z
        · rw [e] at z
          cases z
      · rw [e2] at hx
        cases hx
      · rw [e2] at hwa
        cases hwa
      · rw [e2] at hra
        cases hra
    have f1 := nF x hx
    have f2 := nF wa hwa
    have f3 := nF ra hra
    refine ⟨_, rfl, a, ns, 1, rfl, Sc.sq, hl, fun v _ _ => ⟨_, _, rfl, rfl, nz (by decide), ?_⟩⟩
    have hv : 0 ≤ v.fmod 17 ∧ v.fmod 17 < 17 := by
      rw [fmodP (by decide)]
      omega
    refine ⟨_, rfl, by omega, by omega, for_range (lo := 0) (n := (v.fmod 17).toNat) (fun i sg H' => ∃ (A : BA) (F : Addr → Prop) (now many : Int) (m : Mp Str) (v5 v6 : Option V), A.x = xb ∧
      sg = [some (.ref a), some (.int S), some (.int l), some (.ref xb), some (.ref x), v5, v6, none] ∧ Scr K H' (fun b => F b ∨ GG x wa ra b) a (ns.map V.int) ∧ Bk CW CA CB H' F A S l.toNat now many m ∧ WO H' x wa ra S l now many m ∧ ¬ F x ∧ ¬ F wa ∧ ¬ F ra ∧
      0 ≤ many ∧ many ≤ (i : Int) ∧ StB m ∧ Rs m ∧ NmOk m) ?_ ?_ ?_⟩
    · exact ⟨A0, F0, 0, 0, _, none, none, ex0, rfl, Sc, ⟨b3, b2.2⟩, W3, f1, f2, f3, Int.le_refl _, Int.le_refl _, fun n a s h => (by cases h), fun n a h => (by cases h), fun n a h => (by cases h)⟩
    · rintro i sg H4 hi ⟨A, F, now, many, m, v5, v6, ex, rfl, Sc4, b4, W4, nx4, nw4, nr4, hm0, hmi, hst, hrs, hnm⟩
      have hfree : m many = none := by
        cases e : m many with
        | none => rfl
        | some c =>
          have := W4.bd _ _ e
          omega
      refine ⟨_, rfl, _, rfl, _, _, rfl, rfl, .inl (by decide), _, _, rfl, rfl, _, rfl, a, x, wa, ra, ns, _, S, l, now, many, m, rfl, Sc4.sq, hl, g1, g2, W4, hm0, by omega, hst, b4.2, fun d p H5 good s5 e5 => ?_⟩
      have b5 := b4.1.same s5
      have W5 := W4.same s5
      have Sc5 : Scr K H5 (fun b => F b ∨ GG x wa ra b) a (ns.map V.int) := Sc4.go fun b o e n => ⟨s5 _ _ e, n⟩
      have ownG := W5.own
      refine ⟨_, rfl, _, rfl, x, wa, ra, p, S, l, now, many, m, d, rfl, e5, W5, hm0, by omega, hst.stp, good.1, fun o2 now2 many2 m2 H6 w6 does2 W6 C6 rep6 => ?_⟩
      have e6 := C6.tup ownG _ _ e5
      have b6 := b5.keep (C6.on ownG fun c hc z => by
        rcases z with rfl | rfl | rfl
        · exact nx4 hc
        · exact nw4 hc
        · exact nr4 hc)
      have Sc6 : Scr K H6 (fun b => F b ∨ GG x wa ra b) a (ns.map V.int) := Sc5.go fun b o e n => ⟨C6.kp _ _ e fun z => n (.inr z), n⟩
      refine ⟨_, rfl, _, rfl, A, F, S, _, now, many, m, p, d, by rw [ex]; rfl, ⟨b6, b4.2⟩, e6, hm0, by omega, hfree, hrs, good.1, fun o now' many' m' A7 F7 H7 w7 does ex7 b7 C7 rep7 new7 => ?_⟩
      obtain ⟨rfl, rfl, rfl, rfl⟩ := does.det does2
      have W7 := W6.ch C7 b6.own nx4 nw4 nr4
      obtain ⟨nx7, nw7, nr7⟩ := W6.outs C7 nx4 nw4 nr4
      have Sc7 : Scr K H7 (fun b => F7 b ∨ GG x wa ra b) a (ns.map V.int) := Sc6.go fun b o e n => ⟨C7.kp _ _ e fun z => n (.inl z), fun z => z.elim (fun z => C7.out e (fun z => n (.inl z)) z) fun z => n (.inr z)⟩
      obtain ⟨hst', hrs', hnm', hk1, hk2, okw⟩ := does.inv good hst hrs hnm b4.2
      refine ⟨_, _, repD rep7, .str _, shapeO okw.ok, shapeO (o := .str ("wrong" : Str)) (show PyData.strOk ("wrong" : Str) = true by decide +kernel), ?_⟩
      rw [okw.wrong]
      refine ⟨_, rfl, iteF ?_⟩
      refine ⟨_, rfl, _, rfl, A7, F7, S, l, now', many', m', x, wa, ra, by rw [ex7, ex]; rfl, b7, W7, ⟨g1, g2, g3, g4⟩, by omega, fun H8 s8 => ⟨_, rfl, iteF ?_⟩⟩
      exact ⟨A7, F7, now', many', m', _, _, ex7.trans ex, rfl, Sc7.go fun b o e n => ⟨s8 _ _ e, n⟩, ⟨b7.1.same s8, b7.2⟩, W7.same s8, nx7, nw7, nr7, by omega, by omega, hst', hrs', hnm'⟩
    · rintro sg H4 ⟨A, F, now, many, m, v5, v6, ex, rfl, Sc4, b4, W4, nx4, nw4, nr4, hm0, hmi, hst, hrs, hnm⟩
      refine ⟨_, rfl, A, F, S, _, now, many, m, 500, by rw [ex]; rfl, b4, fun c hc => ?_, fun H5 s5 => ⟨_, rfl, iteT ?_⟩⟩
      · have := W4.bd _ _ hc
        omega
      have W5 := W4.same s5
      have b5 := b4.1.same s5
      obtain ⟨rs, D5⟩ := W5.r
      have hz := D5.size (fun n a h => W5.bd n a (of_sel h).1) (by omega)
      refine ⟨ra, _, D5.at_, trivial, fun od => ?_⟩
      have ew5 : upd H5 ra (.frz od (.dK rs)) ra = some (.frz od (.dK rs)) := upd_same
      have ex5 : upd H5 ra (.frz od (.dK rs)) x = some (.dK (wkv S l now many wa ra)) := by
        rw [upd_ne W5.n2]
        exact W5.ob
      have bf5 := b5.offK (o := .frz od (.dK rs)) D5.at_ nr4
      generalize upd H5 ra (.frz od (.dK rs)) = HF at ew5 ex5 bf5 ⊢
      refine ⟨_, rfl, x, _, rfl, by rw [← wkv_rests]; exact DGet.k (k := Sum.inr "rests") ex5, ra, od, rfl, .inl ⟨rs, ew5, fun D hD => ?_⟩⟩
      have nD : D ≠ ra := fun z => by
        rw [z, ew5] at hD
        cases hD
      refine lc_it walk_keys (fun j H' => Same HF H' ∧ H' D = some (.lst ((List.replicate j true).map V.bl))) ⟨Same.new hD, upd_same⟩ (fun j H' _ h => h.1 _ _ ew5) ?_ ?_
      · rintro j y H' HH hj ⟨s', e1⟩ ⟨rfl, kk, v, e, rfl⟩
        obtain ⟨n, c, t, rfl, hs, rfl, ht, hv⟩ := D5.key e
        obtain ⟨hmn, har⟩ := of_sel hs
        refine ⟨rfl, ?_⟩
        refine ⟨_, rfl, _, rfl, A, F, S, _, now, many, m, n, by rw [ex]; rfl, ⟨bf5.same s', b4.2⟩, fun c' hc' => ?_, fun H6 s6 => ?_⟩
        · rw [hmn] at hc'
          cases hc'
          exact har
        · have hj' := (List.getElem?_eq_some_iff.mp e).1
          refine ⟨_, s6 _ _ e1, small1000 (by rw [List.length_map, List.length_replicate]; omega), fun b o e2 => ?_, by rw [upd_same, List.replicate_succ', List.map_append]; rfl⟩
          rw [upd_ne (ne_of_none e2 hD)]
          exact s6 _ _ (s' _ _ e2)
      · rintro HE ⟨se, e1⟩
        refine ⟨se _ _ ew5, D, List.replicate rs.length true, rfl, SqL.of (by rw [upd_ne nD]; exact e1), ?_⟩
        have ea : (List.replicate rs.length true).all id = true := by
          rw [List.all_eq_true]
          exact fun b hb => (List.mem_replicate.mp hb).2
        rw [ea]
        exact q _
end
end L2.TK
set_option Elab.async false
set_option linter.all false
set_option maxRecDepth 100000
set_option maxHeartbeats 4000000
namespace L2.TK
open PySem TkM
theorem kit_self {K : PySem.W.Frag} {C : Addr} : PySem.W.kitOne K (.ref C) (.ref C) = some true := by
  unfold PySem.W.kitOne
  rw [if_pos (by simp)]
theorem kit_ref {K : PySem.W.Frag} {C D : Addr} (hs : PySem.W.subIn K (.ref C) (.ref C) = some true) (hd : PySem.W.hasDictIn K D = true) (ht : PySem.W.typeIn K (.ref D) = some (.type "type")) (h : PySem.W.subIn K (.ref C) (.ref D) = some false) : PySem.W.kitOne K (.ref C) (.ref D) = some false := by
  have ne : C ≠ D := fun e => by
    rw [← e, hs] at h
    cases h
  obtain ⟨cd, hc, _⟩ := PySem.W.any_some hd
  unfold PySem.W.kitOne
  rw [if_neg (by simpa using ne)]
  show (if ((PySem.W.clsIn K D).isSome && PySem.W.typeIn K (.ref D) == some (.type "type")) = true then PySem.W.subIn K (.ref C) (.ref D) else none) = some false
  rw [if_pos (by rw [hc, ht]; rfl)]
  exact h
theorem kit_typ {K : PySem.W.Frag} {C : Addr} {T : String} {b : Bool} (m : PySem.W.kitMeta T = true) (h : PySem.W.subIn K (.ref C) (.type T) = some b) : PySem.W.kitOne K (.ref C) (.type T) = some b := by
  unfold PySem.W.kitOne
  rw [if_neg (by simp)]
  show (if PySem.W.kitMeta T = true then PySem.W.subIn K (.ref C) (.type T) else none) = some b
  rw [if_pos m]
  exact h
theorem cls_ne {K : PySem.W.Frag} {C D : Addr} {x : Str} {v : Value} (h1 : PySem.W.findIn K (.ref C) x = some none) (h2 : PySem.W.findIn K (.ref D) x = some (some v)) : C ≠ D := fun e => by
  rw [e, h2] at h1
  cases h1

theorem topE {P : Program} {w : World} {K : PySem.W.Frag} {h : Heap} {mg : Str → Option Value} {fa CW CA CB CT CBad CPast CNot f_WInit f_WPlace f_WPut f_WSoon f_WTurn f_WTake f_AInit f_BInit f_BTime f_BNeed f_BSoon f_set f_ring f_step f_pass f_WDrop f_back f_move f_rest f_go f_lcell f_lmix f_lnew f_lwheels f_lticks f_lset f_lmove f_lback f_lrest f_lon f_lpass f_ldeed f_ldone f_lasked f_BWhere f_BLying f_llw f_llies f_lnone f_law : Addr} {t1 t2} (X : K.In h) (G : h.Ns mainGlobals mg) (hfa : mg "law" = some (.ref fa))
    {od_WInit an_WInit od_WPlace an_WPlace od_WPut an_WPut od_WSoon an_WSoon od_WTurn an_WTurn od_WTake an_WTake od_AInit an_AInit od_BInit an_BInit od_BTime an_BTime od_BNeed an_BNeed od_BSoon an_BSoon od_set an_set od_ring an_ring od_step an_step od_pass an_pass od_WDrop an_WDrop od_back an_back od_move an_move od_rest an_rest od_go an_go od_lcell an_lcell od_lmix an_lmix od_lnew an_lnew od_lwheels an_lwheels od_lticks an_lticks od_lset an_lset od_lmove an_lmove od_lback an_lback od_lrest an_lrest od_lon an_lon od_lpass an_lpass od_ldeed an_ldeed od_ldone an_ldone od_lasked an_lasked od_BWhere an_BWhere od_BLying an_BLying od_llw an_llw od_llies an_llies od_lnone an_lnone od_law an_law : Option Addr} {sl_WInit sl_WPlace sl_WPut sl_WSoon sl_WTurn sl_WTake sl_AInit sl_BInit sl_BTime sl_BNeed sl_BSoon sl_set sl_ring sl_step sl_pass sl_WDrop sl_back sl_move sl_rest sl_go sl_lcell sl_lmix sl_lnew sl_lwheels sl_lticks sl_lset sl_lmove sl_lback sl_lrest sl_lon sl_lpass sl_ldeed sl_ldone sl_lasked sl_BWhere sl_BLying sl_llw sl_llies sl_lnone sl_law : Array (Option Value)} {oc_WInit kV_WInit dc_WInit pm_WInit cd_WInit ct_WInit oc_WPlace kV_WPlace dc_WPlace pm_WPlace cd_WPlace ct_WPlace oc_WPut kV_WPut dc_WPut pm_WPut cd_WPut ct_WPut oc_WSoon kV_WSoon dc_WSoon pm_WSoon cd_WSoon ct_WSoon oc_WTurn kV_WTurn dc_WTurn pm_WTurn cd_WTurn ct_WTurn oc_WTake kV_WTake dc_WTake pm_WTake cd_WTake ct_WTake oc_AInit kV_AInit dc_AInit pm_AInit cd_AInit ct_AInit oc_BInit kV_BInit dc_BInit pm_BInit cd_BInit ct_BInit oc_BTime kV_BTime dc_BTime pm_BTime cd_BTime ct_BTime oc_BNeed kV_BNeed dc_BNeed pm_BNeed cd_BNeed ct_BNeed oc_BSoon kV_BSoon dc_BSoon pm_BSoon cd_BSoon ct_BSoon oc_set kV_set dc_set pm_set cd_set ct_set oc_ring kV_ring dc_ring pm_ring cd_ring ct_ring oc_step kV_step dc_step pm_step cd_step ct_step oc_pass kV_pass dc_pass pm_pass cd_pass ct_pass oc_WDrop kV_WDrop dc_WDrop pm_WDrop cd_WDrop ct_WDrop oc_back kV_back dc_back pm_back cd_back ct_back oc_move kV_move dc_move pm_move cd_move ct_move oc_rest kV_rest dc_rest pm_rest cd_rest ct_rest oc_go kV_go dc_go pm_go cd_go ct_go oc_lcell kV_lcell dc_lcell pm_lcell cd_lcell ct_lcell oc_lmix kV_lmix dc_lmix pm_lmix cd_lmix ct_lmix oc_lnew kV_lnew dc_lnew pm_lnew cd_lnew ct_lnew oc_lwheels kV_lwheels dc_lwheels pm_lwheels cd_lwheels ct_lwheels oc_lticks kV_lticks dc_lticks pm_lticks cd_lticks ct_lticks oc_lset kV_lset dc_lset pm_lset cd_lset ct_lset oc_lmove kV_lmove dc_lmove pm_lmove cd_lmove ct_lmove oc_lback kV_lback dc_lback pm_lback cd_lback ct_lback oc_lrest kV_lrest dc_lrest pm_lrest cd_lrest ct_lrest oc_lon kV_lon dc_lon pm_lon cd_lon ct_lon oc_lpass kV_lpass dc_lpass pm_lpass cd_lpass ct_lpass oc_ldeed kV_ldeed dc_ldeed pm_ldeed cd_ldeed ct_ldeed oc_ldone kV_ldone dc_ldone pm_ldone cd_ldone ct_ldone oc_lasked kV_lasked dc_lasked pm_lasked cd_lasked ct_lasked oc_BWhere kV_BWhere dc_BWhere pm_BWhere cd_BWhere ct_BWhere oc_BLying kV_BLying dc_BLying pm_BLying cd_BLying ct_BLying oc_llw kV_llw dc_llw pm_llw cd_llw ct_llw oc_llies kV_llies dc_llies pm_llies cd_llies ct_llies oc_lnone kV_lnone dc_lnone pm_lnone cd_lnone ct_lnone oc_law kV_law dc_law pm_law cd_law ct_law : Value}
    (aW : PySem.W.nsIn K mainGlobals "Wheels" = some (some (.ref CW)))
    (aA : PySem.W.nsIn K mainGlobals "Alarm" = some (some (.ref CA)))
    (aB : PySem.W.nsIn K mainGlobals "Book" = some (some (.ref CB)))
    (aT : PySem.W.nsIn K mainGlobals "TickError" = some (some (.ref CT)))
    (aBad : PySem.W.nsIn K mainGlobals "BadWheels" = some (some (.ref CBad)))
    (aPast : PySem.W.nsIn K mainGlobals "Past" = some (some (.ref CPast)))
    (aNot : PySem.W.nsIn K mainGlobals "NotThere" = some (some (.ref CNot)))
    (pgW : PySem.W.plainGet K CW Str.empty = true)
    (hdW : PySem.W.hasDictIn K CW = true)
    (poW : PySem.W.plainOver K CW = true)
    (saW : PySem.W.findIn K (.ref CW) "__setattr__" = some (some (.builtin "object.__setattr__")))
    (mkW : PySem.W.makesIn K CW = true)
    (kcW : PySem.W.keepIn K (.ref CW) = true)
    (pgA : PySem.W.plainGet K CA Str.empty = true)
    (hdA : PySem.W.hasDictIn K CA = true)
    (poA : PySem.W.plainOver K CA = true)
    (saA : PySem.W.findIn K (.ref CA) "__setattr__" = some (some (.builtin "object.__setattr__")))
    (mkA : PySem.W.makesIn K CA = true)
    (kcA : PySem.W.keepIn K (.ref CA) = true)
    (pgB : PySem.W.plainGet K CB Str.empty = true)
    (hdB : PySem.W.hasDictIn K CB = true)
    (poB : PySem.W.plainOver K CB = true)
    (saB : PySem.W.findIn K (.ref CB) "__setattr__" = some (some (.builtin "object.__setattr__")))
    (mkB : PySem.W.makesIn K CB = true)
    (kcB : PySem.W.keepIn K (.ref CB) = true)
    (nW_slots : PySem.W.findIn K (.ref CW) "slots" = some none)
    (nW_levels : PySem.W.findIn K (.ref CW) "levels" = some none)
    (nW_spans : PySem.W.findIn K (.ref CW) "spans" = some none)
    (nW_rows : PySem.W.findIn K (.ref CW) "rows" = some none)
    (nW_far : PySem.W.findIn K (.ref CW) "far" = some none)
    (nA_name : PySem.W.findIn K (.ref CA) "name" = some none)
    (nA_when : PySem.W.findIn K (.ref CA) "when" = some none)
    (nA_step : PySem.W.findIn K (.ref CA) "step" = some none)
    (nA_rest : PySem.W.findIn K (.ref CA) "rest" = some none)
    (nB_wheels : PySem.W.findIn K (.ref CB) "wheels" = some none)
    (nB_now : PySem.W.findIn K (.ref CB) "now" = some none)
    (nB_many : PySem.W.findIn K (.ref CB) "many" = some none)
    (nB_alarms : PySem.W.findIn K (.ref CB) "alarms" = some none)
    (nA_time : PySem.W.findIn K (.ref CA) "time" = some none)
    (nA_put : PySem.W.findIn K (.ref CA) "put" = some none)
    (nB_put : PySem.W.findIn K (.ref CB) "put" = some none)
    (cS : PySem.W.nsIn K mainGlobals "MOST_SLOTS" = some (some (.int 64 t1)))
    (cL : PySem.W.nsIn K mainGlobals "MOST_LEVELS" = some (some (.int 6 t2)))
    (z_range : PySem.W.nsIn K mainGlobals "range" = some none)
    (z_reversed : PySem.W.nsIn K mainGlobals "reversed" = some none)
    (z_sorted : PySem.W.nsIn K mainGlobals "sorted" = some none)
    (z_min : PySem.W.nsIn K mainGlobals "min" = some none)
    (z_len : PySem.W.nsIn K mainGlobals "len" = some none)
    (z_isinstance : PySem.W.nsIn K mainGlobals "isinstance" = some none)
    (z_tuple : PySem.W.nsIn K mainGlobals "tuple" = some none)
    (z_sum : PySem.W.nsIn K mainGlobals "sum" = some none)
    (z_int : PySem.W.nsIn K mainGlobals "int" = some none)
    (z_max : PySem.W.nsIn K mainGlobals "max" = some none)
    (z_ValueError : PySem.W.nsIn K mainGlobals "ValueError" = some none)
    (z_all : PySem.W.nsIn K mainGlobals "all" = some none)
    (tbT : PySem.W.subIn K (.ref CT) (.type "BaseException") = some true)
    (thT : PySem.W.hasDictIn K CT = true)
    (ttT : PySem.W.typeIn K (.ref CT) = some (.type "type"))
    (tbBad : PySem.W.subIn K (.ref CBad) (.type "BaseException") = some true)
    (thBad : PySem.W.hasDictIn K CBad = true)
    (ttBad : PySem.W.typeIn K (.ref CBad) = some (.type "type"))
    (tbPast : PySem.W.subIn K (.ref CPast) (.type "BaseException") = some true)
    (thPast : PySem.W.hasDictIn K CPast = true)
    (ttPast : PySem.W.typeIn K (.ref CPast) = some (.type "type"))
    (tbNot : PySem.W.subIn K (.ref CNot) (.type "BaseException") = some true)
    (thNot : PySem.W.hasDictIn K CNot = true)
    (ttNot : PySem.W.typeIn K (.ref CNot) = some (.type "type"))
    (exBad : PySem.W.excIn K CBad [.type "ValueError", .type "Exception", .type "BaseException", .type "object"] "ValueError.__new__" = true)
    (kpBad : PySem.W.keepIn K (.ref CBad) = true)
    (stBad : PySem.W.subIn K (.ref CBad) (.ref CT) = some true)
    (svBad : PySem.W.subIn K (.ref CBad) (.type "ValueError") = some true)
    (hgBad : PySem.W.findIn K (.ref CBad) "__getattribute__" = some (some (.builtin "BaseException.__getattribute__")))
    (hkBad : PySem.W.findIn K (.ref CBad) "__getattr__" = some none)
    (haBad : PySem.W.findIn K (.ref CBad) "__class__" = some (some (.builtin "object.__class__")))
    (hmBad : PySem.W.mroIn K CBad (.type "object") = some true)
    (ssBad : PySem.W.subIn K (.ref CBad) (.ref CBad) = some true)
    (sBadPast : PySem.W.subIn K (.ref CBad) (.ref CPast) = some false)
    (sBadNot : PySem.W.subIn K (.ref CBad) (.ref CNot) = some false)
    (exPast : PySem.W.excIn K CPast [.type "ValueError", .type "Exception", .type "BaseException", .type "object"] "ValueError.__new__" = true)
    (kpPast : PySem.W.keepIn K (.ref CPast) = true)
    (stPast : PySem.W.subIn K (.ref CPast) (.ref CT) = some true)
    (svPast : PySem.W.subIn K (.ref CPast) (.type "ValueError") = some true)
    (hgPast : PySem.W.findIn K (.ref CPast) "__getattribute__" = some (some (.builtin "BaseException.__getattribute__")))
    (hkPast : PySem.W.findIn K (.ref CPast) "__getattr__" = some none)
    (haPast : PySem.W.findIn K (.ref CPast) "__class__" = some (some (.builtin "object.__class__")))
    (hmPast : PySem.W.mroIn K CPast (.type "object") = some true)
    (ssPast : PySem.W.subIn K (.ref CPast) (.ref CPast) = some true)
    (sPastBad : PySem.W.subIn K (.ref CPast) (.ref CBad) = some false)
    (sPastNot : PySem.W.subIn K (.ref CPast) (.ref CNot) = some false)
    (exNot : PySem.W.excIn K CNot [.type "ValueError", .type "Exception", .type "BaseException", .type "object"] "ValueError.__new__" = true)
    (kpNot : PySem.W.keepIn K (.ref CNot) = true)
    (stNot : PySem.W.subIn K (.ref CNot) (.ref CT) = some true)
    (svNot : PySem.W.subIn K (.ref CNot) (.type "ValueError") = some true)
    (hgNot : PySem.W.findIn K (.ref CNot) "__getattribute__" = some (some (.builtin "BaseException.__getattribute__")))
    (hkNot : PySem.W.findIn K (.ref CNot) "__getattr__" = some none)
    (haNot : PySem.W.findIn K (.ref CNot) "__class__" = some (some (.builtin "object.__class__")))
    (hmNot : PySem.W.mroIn K CNot (.type "object") = some true)
    (ssNot : PySem.W.subIn K (.ref CNot) (.ref CNot) = some true)
    (sNotBad : PySem.W.subIn K (.ref CNot) (.ref CBad) = some false)
    (sNotPast : PySem.W.subIn K (.ref CNot) (.ref CPast) = some false)
    (objn : PySem.W.specialIn K (.builtin "object.__class__") "__get__" = some (some (.builtin "getset_descriptor.__get__")))
    (objt : PySem.W.takesIn K (.builtin "object.__class__") = some true)
    (a_WInit : PySem.W.findIn K (.ref CW) "__init__" = some (some (.ref f_WInit)))
    (i_WInit : PySem.W.isFn K (.ref f_WInit) = true)
    (l_WInit : K.lookup f_WInit = some ⟨oc_WInit, od_WInit, .func (PySem.W.fnOf "__init__" "Wheels.__init__" (defArgs sWheels_init) (defBody sWheels_init) (defScope sWheels_init) .none kV_WInit dc_WInit pm_WInit an_WInit cd_WInit ct_WInit), sl_WInit⟩)
    (c_WInit : PySem.W.codeIn K cd_WInit "Wheels.__init__" = true)
    (k_WInit : PySem.W.keepIn K (.ref f_WInit) = true)
    (a_WPlace : PySem.W.findIn K (.ref CW) "place" = some (some (.ref f_WPlace)))
    (i_WPlace : PySem.W.isFn K (.ref f_WPlace) = true)
    (l_WPlace : K.lookup f_WPlace = some ⟨oc_WPlace, od_WPlace, .func (PySem.W.fnOf "place" "Wheels.place" (defArgs sWheels_place) (defBody sWheels_place) (defScope sWheels_place) .none kV_WPlace dc_WPlace pm_WPlace an_WPlace cd_WPlace ct_WPlace), sl_WPlace⟩)
    (c_WPlace : PySem.W.codeIn K cd_WPlace "Wheels.place" = true)
    (k_WPlace : PySem.W.keepIn K (.ref f_WPlace) = true)
    (a_WPut : PySem.W.findIn K (.ref CW) "put" = some (some (.ref f_WPut)))
    (i_WPut : PySem.W.isFn K (.ref f_WPut) = true)
    (l_WPut : K.lookup f_WPut = some ⟨oc_WPut, od_WPut, .func (PySem.W.fnOf "put" "Wheels.put" (defArgs sWheels_put) (defBody sWheels_put) (defScope sWheels_put) .none kV_WPut dc_WPut pm_WPut an_WPut cd_WPut ct_WPut), sl_WPut⟩)
    (c_WPut : PySem.W.codeIn K cd_WPut "Wheels.put" = true)
    (k_WPut : PySem.W.keepIn K (.ref f_WPut) = true)
    (a_WSoon : PySem.W.findIn K (.ref CW) "soonest" = some (some (.ref f_WSoon)))
    (i_WSoon : PySem.W.isFn K (.ref f_WSoon) = true)
    (l_WSoon : K.lookup f_WSoon = some ⟨oc_WSoon, od_WSoon, .func (PySem.W.fnOf "soonest" "Wheels.soonest" (defArgs sWheels_soonest) (defBody sWheels_soonest) (defScope sWheels_soonest) .none kV_WSoon dc_WSoon pm_WSoon an_WSoon cd_WSoon ct_WSoon), sl_WSoon⟩)
    (c_WSoon : PySem.W.codeIn K cd_WSoon "Wheels.soonest" = true)
    (k_WSoon : PySem.W.keepIn K (.ref f_WSoon) = true)
    (a_WTurn : PySem.W.findIn K (.ref CW) "turn" = some (some (.ref f_WTurn)))
    (i_WTurn : PySem.W.isFn K (.ref f_WTurn) = true)
    (l_WTurn : K.lookup f_WTurn = some ⟨oc_WTurn, od_WTurn, .func (PySem.W.fnOf "turn" "Wheels.turn" (defArgs sWheels_turn) (defBody sWheels_turn) (defScope sWheels_turn) .none kV_WTurn dc_WTurn pm_WTurn an_WTurn cd_WTurn ct_WTurn), sl_WTurn⟩)
    (c_WTurn : PySem.W.codeIn K cd_WTurn "Wheels.turn" = true)
    (k_WTurn : PySem.W.keepIn K (.ref f_WTurn) = true)
    (a_WTake : PySem.W.findIn K (.ref CW) "take_now" = some (some (.ref f_WTake)))
    (i_WTake : PySem.W.isFn K (.ref f_WTake) = true)
    (l_WTake : K.lookup f_WTake = some ⟨oc_WTake, od_WTake, .func (PySem.W.fnOf "take_now" "Wheels.take_now" (defArgs sWheels_take_now) (defBody sWheels_take_now) (defScope sWheels_take_now) .none kV_WTake dc_WTake pm_WTake an_WTake cd_WTake ct_WTake), sl_WTake⟩)
    (c_WTake : PySem.W.codeIn K cd_WTake "Wheels.take_now" = true)
    (k_WTake : PySem.W.keepIn K (.ref f_WTake) = true)
    (a_AInit : PySem.W.findIn K (.ref CA) "__init__" = some (some (.ref f_AInit)))
    (i_AInit : PySem.W.isFn K (.ref f_AInit) = true)
    (l_AInit : K.lookup f_AInit = some ⟨oc_AInit, od_AInit, .func (PySem.W.fnOf "__init__" "Alarm.__init__" (defArgs sAlarm_init) (defBody sAlarm_init) (defScope sAlarm_init) .none kV_AInit dc_AInit pm_AInit an_AInit cd_AInit ct_AInit), sl_AInit⟩)
    (c_AInit : PySem.W.codeIn K cd_AInit "Alarm.__init__" = true)
    (k_AInit : PySem.W.keepIn K (.ref f_AInit) = true)
    (a_BInit : PySem.W.findIn K (.ref CB) "__init__" = some (some (.ref f_BInit)))
    (i_BInit : PySem.W.isFn K (.ref f_BInit) = true)
    (l_BInit : K.lookup f_BInit = some ⟨oc_BInit, od_BInit, .func (PySem.W.fnOf "__init__" "Book.__init__" (defArgs sBook_init) (defBody sBook_init) (defScope sBook_init) .none kV_BInit dc_BInit pm_BInit an_BInit cd_BInit ct_BInit), sl_BInit⟩)
    (c_BInit : PySem.W.codeIn K cd_BInit "Book.__init__" = true)
    (k_BInit : PySem.W.keepIn K (.ref f_BInit) = true)
    (a_BTime : PySem.W.findIn K (.ref CB) "time" = some (some (.ref f_BTime)))
    (i_BTime : PySem.W.isFn K (.ref f_BTime) = true)
    (l_BTime : K.lookup f_BTime = some ⟨oc_BTime, od_BTime, .func (PySem.W.fnOf "time" "Book.time" (defArgs sBook_time) (defBody sBook_time) (defScope sBook_time) .none kV_BTime dc_BTime pm_BTime an_BTime cd_BTime ct_BTime), sl_BTime⟩)
    (c_BTime : PySem.W.codeIn K cd_BTime "Book.time" = true)
    (k_BTime : PySem.W.keepIn K (.ref f_BTime) = true)
    (a_BNeed : PySem.W.findIn K (.ref CB) "need" = some (some (.ref f_BNeed)))
    (i_BNeed : PySem.W.isFn K (.ref f_BNeed) = true)
    (l_BNeed : K.lookup f_BNeed = some ⟨oc_BNeed, od_BNeed, .func (PySem.W.fnOf "need" "Book.need" (defArgs sBook_need) (defBody sBook_need) (defScope sBook_need) .none kV_BNeed dc_BNeed pm_BNeed an_BNeed cd_BNeed ct_BNeed), sl_BNeed⟩)
    (c_BNeed : PySem.W.codeIn K cd_BNeed "Book.need" = true)
    (k_BNeed : PySem.W.keepIn K (.ref f_BNeed) = true)
    (a_BSoon : PySem.W.findIn K (.ref CB) "soonest" = some (some (.ref f_BSoon)))
    (i_BSoon : PySem.W.isFn K (.ref f_BSoon) = true)
    (l_BSoon : K.lookup f_BSoon = some ⟨oc_BSoon, od_BSoon, .func (PySem.W.fnOf "soonest" "Book.soonest" (defArgs sBook_soonest) (defBody sBook_soonest) (defScope sBook_soonest) .none kV_BSoon dc_BSoon pm_BSoon an_BSoon cd_BSoon ct_BSoon), sl_BSoon⟩)
    (c_BSoon : PySem.W.codeIn K cd_BSoon "Book.soonest" = true)
    (k_BSoon : PySem.W.keepIn K (.ref f_BSoon) = true)
    (a_set : PySem.W.nsIn K mainGlobals "set_alarm" = some (some (.ref f_set)))
    (l_set : K.lookup f_set = some ⟨oc_set, od_set, .func (PySem.W.fnOf "set_alarm" "set_alarm" (defArgs s_set_alarm) (defBody s_set_alarm) (defScope s_set_alarm) .none kV_set dc_set pm_set an_set cd_set ct_set), sl_set⟩)
    (c_set : PySem.W.codeIn K cd_set "set_alarm" = true)
    (k_set : PySem.W.keepIn K (.ref f_set) = true)
    (a_ring : PySem.W.nsIn K mainGlobals "ring" = some (some (.ref f_ring)))
    (l_ring : K.lookup f_ring = some ⟨oc_ring, od_ring, .func (PySem.W.fnOf "ring" "ring" (defArgs s_ring) (defBody s_ring) (defScope s_ring) .none kV_ring dc_ring pm_ring an_ring cd_ring ct_ring), sl_ring⟩)
    (c_ring : PySem.W.codeIn K cd_ring "ring" = true)
    (k_ring : PySem.W.keepIn K (.ref f_ring) = true)
    (a_step : PySem.W.nsIn K mainGlobals "step_to" = some (some (.ref f_step)))
    (l_step : K.lookup f_step = some ⟨oc_step, od_step, .func (PySem.W.fnOf "step_to" "step_to" (defArgs s_step_to) (defBody s_step_to) (defScope s_step_to) .none kV_step dc_step pm_step an_step cd_step ct_step), sl_step⟩)
    (c_step : PySem.W.codeIn K cd_step "step_to" = true)
    (k_step : PySem.W.keepIn K (.ref f_step) = true)
    (a_pass : PySem.W.nsIn K mainGlobals "pass_ticks" = some (some (.ref f_pass)))
    (l_pass : K.lookup f_pass = some ⟨oc_pass, od_pass, .func (PySem.W.fnOf "pass_ticks" "pass_ticks" (defArgs s_pass_ticks) (defBody s_pass_ticks) (defScope s_pass_ticks) .none kV_pass dc_pass pm_pass an_pass cd_pass ct_pass), sl_pass⟩)
    (c_pass : PySem.W.codeIn K cd_pass "pass_ticks" = true)
    (k_pass : PySem.W.keepIn K (.ref f_pass) = true)
    (a_WDrop : PySem.W.findIn K (.ref CW) "drop" = some (some (.ref f_WDrop)))
    (i_WDrop : PySem.W.isFn K (.ref f_WDrop) = true)
    (l_WDrop : K.lookup f_WDrop = some ⟨oc_WDrop, od_WDrop, .func (PySem.W.fnOf "drop" "Wheels.drop" (defArgs sWheels_drop) (defBody sWheels_drop) (defScope sWheels_drop) .none kV_WDrop dc_WDrop pm_WDrop an_WDrop cd_WDrop ct_WDrop), sl_WDrop⟩)
    (c_WDrop : PySem.W.codeIn K cd_WDrop "Wheels.drop" = true)
    (k_WDrop : PySem.W.keepIn K (.ref f_WDrop) = true)
    (a_back : PySem.W.nsIn K mainGlobals "take_back" = some (some (.ref f_back)))
    (l_back : K.lookup f_back = some ⟨oc_back, od_back, .func (PySem.W.fnOf "take_back" "take_back" (defArgs s_take_back) (defBody s_take_back) (defScope s_take_back) .none kV_back dc_back pm_back an_back cd_back ct_back), sl_back⟩)
    (c_back : PySem.W.codeIn K cd_back "take_back" = true)
    (k_back : PySem.W.keepIn K (.ref f_back) = true)
    (a_move : PySem.W.nsIn K mainGlobals "move" = some (some (.ref f_move)))
    (l_move : K.lookup f_move = some ⟨oc_move, od_move, .func (PySem.W.fnOf "move" "move" (defArgs s_move) (defBody s_move) (defScope s_move) .none kV_move dc_move pm_move an_move cd_move ct_move), sl_move⟩)
    (c_move : PySem.W.codeIn K cd_move "move" = true)
    (k_move : PySem.W.keepIn K (.ref f_move) = true)
    (a_rest : PySem.W.nsIn K mainGlobals "rest" = some (some (.ref f_rest)))
    (l_rest : K.lookup f_rest = some ⟨oc_rest, od_rest, .func (PySem.W.fnOf "rest" "rest" (defArgs s_rest) (defBody s_rest) (defScope s_rest) .none kV_rest dc_rest pm_rest an_rest cd_rest ct_rest), sl_rest⟩)
    (c_rest : PySem.W.codeIn K cd_rest "rest" = true)
    (k_rest : PySem.W.keepIn K (.ref f_rest) = true)
    (a_go : PySem.W.nsIn K mainGlobals "go_on" = some (some (.ref f_go)))
    (l_go : K.lookup f_go = some ⟨oc_go, od_go, .func (PySem.W.fnOf "go_on" "go_on" (defArgs s_go_on) (defBody s_go_on) (defScope s_go_on) .none kV_go dc_go pm_go an_go cd_go ct_go), sl_go⟩)
    (c_go : PySem.W.codeIn K cd_go "go_on" = true)
    (k_go : PySem.W.keepIn K (.ref f_go) = true)
    (a_lcell : PySem.W.nsIn K mainGlobals "_law_cell" = some (some (.ref f_lcell)))
    (l_lcell : K.lookup f_lcell = some ⟨oc_lcell, od_lcell, .func (PySem.W.fnOf "_law_cell" "_law_cell" (defArgs s_law_cell) (defBody s_law_cell) (defScope s_law_cell) .none kV_lcell dc_lcell pm_lcell an_lcell cd_lcell ct_lcell), sl_lcell⟩)
    (c_lcell : PySem.W.codeIn K cd_lcell "_law_cell" = true)
    (k_lcell : PySem.W.keepIn K (.ref f_lcell) = true)
    (a_lmix : PySem.W.nsIn K mainGlobals "_law_mix" = some (some (.ref f_lmix)))
    (l_lmix : K.lookup f_lmix = some ⟨oc_lmix, od_lmix, .func (PySem.W.fnOf "_law_mix" "_law_mix" (defArgs s_law_mix) (defBody s_law_mix) (defScope s_law_mix) .none kV_lmix dc_lmix pm_lmix an_lmix cd_lmix ct_lmix), sl_lmix⟩)
    (c_lmix : PySem.W.codeIn K cd_lmix "_law_mix" = true)
    (k_lmix : PySem.W.keepIn K (.ref f_lmix) = true)
    (a_lnew : PySem.W.nsIn K mainGlobals "_law_new" = some (some (.ref f_lnew)))
    (l_lnew : K.lookup f_lnew = some ⟨oc_lnew, od_lnew, .func (PySem.W.fnOf "_law_new" "_law_new" (defArgs s_law_new) (defBody s_law_new) (defScope s_law_new) .none kV_lnew dc_lnew pm_lnew an_lnew cd_lnew ct_lnew), sl_lnew⟩)
    (c_lnew : PySem.W.codeIn K cd_lnew "_law_new" = true)
    (k_lnew : PySem.W.keepIn K (.ref f_lnew) = true)
    (a_lwheels : PySem.W.nsIn K mainGlobals "_law_wheels" = some (some (.ref f_lwheels)))
    (l_lwheels : K.lookup f_lwheels = some ⟨oc_lwheels, od_lwheels, .func (PySem.W.fnOf "_law_wheels" "_law_wheels" (defArgs s_law_wheels) (defBody s_law_wheels) (defScope s_law_wheels) .none kV_lwheels dc_lwheels pm_lwheels an_lwheels cd_lwheels ct_lwheels), sl_lwheels⟩)
    (c_lwheels : PySem.W.codeIn K cd_lwheels "_law_wheels" = true)
    (k_lwheels : PySem.W.keepIn K (.ref f_lwheels) = true)
    (a_lticks : PySem.W.nsIn K mainGlobals "_law_ticks" = some (some (.ref f_lticks)))
    (l_lticks : K.lookup f_lticks = some ⟨oc_lticks, od_lticks, .func (PySem.W.fnOf "_law_ticks" "_law_ticks" (defArgs s_law_ticks) (defBody s_law_ticks) (defScope s_law_ticks) .none kV_lticks dc_lticks pm_lticks an_lticks cd_lticks ct_lticks), sl_lticks⟩)
    (c_lticks : PySem.W.codeIn K cd_lticks "_law_ticks" = true)
    (k_lticks : PySem.W.keepIn K (.ref f_lticks) = true)
    (a_lset : PySem.W.nsIn K mainGlobals "_law_set" = some (some (.ref f_lset)))
    (l_lset : K.lookup f_lset = some ⟨oc_lset, od_lset, .func (PySem.W.fnOf "_law_set" "_law_set" (defArgs s_law_set) (defBody s_law_set) (defScope s_law_set) .none kV_lset dc_lset pm_lset an_lset cd_lset ct_lset), sl_lset⟩)
    (c_lset : PySem.W.codeIn K cd_lset "_law_set" = true)
    (k_lset : PySem.W.keepIn K (.ref f_lset) = true)
    (a_lmove : PySem.W.nsIn K mainGlobals "_law_move" = some (some (.ref f_lmove)))
    (l_lmove : K.lookup f_lmove = some ⟨oc_lmove, od_lmove, .func (PySem.W.fnOf "_law_move" "_law_move" (defArgs s_law_move) (defBody s_law_move) (defScope s_law_move) .none kV_lmove dc_lmove pm_lmove an_lmove cd_lmove ct_lmove), sl_lmove⟩)
    (c_lmove : PySem.W.codeIn K cd_lmove "_law_move" = true)
    (k_lmove : PySem.W.keepIn K (.ref f_lmove) = true)
    (a_lback : PySem.W.nsIn K mainGlobals "_law_back" = some (some (.ref f_lback)))
    (l_lback : K.lookup f_lback = some ⟨oc_lback, od_lback, .func (PySem.W.fnOf "_law_back" "_law_back" (defArgs s_law_back) (defBody s_law_back) (defScope s_law_back) .none kV_lback dc_lback pm_lback an_lback cd_lback ct_lback), sl_lback⟩)
    (c_lback : PySem.W.codeIn K cd_lback "_law_back" = true)
    (k_lback : PySem.W.keepIn K (.ref f_lback) = true)
    (a_lrest : PySem.W.nsIn K mainGlobals "_law_rest" = some (some (.ref f_lrest)))
    (l_lrest : K.lookup f_lrest = some ⟨oc_lrest, od_lrest, .func (PySem.W.fnOf "_law_rest" "_law_rest" (defArgs s_law_rest) (defBody s_law_rest) (defScope s_law_rest) .none kV_lrest dc_lrest pm_lrest an_lrest cd_lrest ct_lrest), sl_lrest⟩)
    (c_lrest : PySem.W.codeIn K cd_lrest "_law_rest" = true)
    (k_lrest : PySem.W.keepIn K (.ref f_lrest) = true)
    (a_lon : PySem.W.nsIn K mainGlobals "_law_on" = some (some (.ref f_lon)))
    (l_lon : K.lookup f_lon = some ⟨oc_lon, od_lon, .func (PySem.W.fnOf "_law_on" "_law_on" (defArgs s_law_on) (defBody s_law_on) (defScope s_law_on) .none kV_lon dc_lon pm_lon an_lon cd_lon ct_lon), sl_lon⟩)
    (c_lon : PySem.W.codeIn K cd_lon "_law_on" = true)
    (k_lon : PySem.W.keepIn K (.ref f_lon) = true)
    (a_lpass : PySem.W.nsIn K mainGlobals "_law_pass" = some (some (.ref f_lpass)))
    (l_lpass : K.lookup f_lpass = some ⟨oc_lpass, od_lpass, .func (PySem.W.fnOf "_law_pass" "_law_pass" (defArgs s_law_pass) (defBody s_law_pass) (defScope s_law_pass) .none kV_lpass dc_lpass pm_lpass an_lpass cd_lpass ct_lpass), sl_lpass⟩)
    (c_lpass : PySem.W.codeIn K cd_lpass "_law_pass" = true)
    (k_lpass : PySem.W.keepIn K (.ref f_lpass) = true)
    (a_ldeed : PySem.W.nsIn K mainGlobals "_law_deed" = some (some (.ref f_ldeed)))
    (l_ldeed : K.lookup f_ldeed = some ⟨oc_ldeed, od_ldeed, .func (PySem.W.fnOf "_law_deed" "_law_deed" (defArgs s_law_deed) (defBody s_law_deed) (defScope s_law_deed) .none kV_ldeed dc_ldeed pm_ldeed an_ldeed cd_ldeed ct_ldeed), sl_ldeed⟩)
    (c_ldeed : PySem.W.codeIn K cd_ldeed "_law_deed" = true)
    (k_ldeed : PySem.W.keepIn K (.ref f_ldeed) = true)
    (a_ldone : PySem.W.nsIn K mainGlobals "_law_done" = some (some (.ref f_ldone)))
    (l_ldone : K.lookup f_ldone = some ⟨oc_ldone, od_ldone, .func (PySem.W.fnOf "_law_done" "_law_done" (defArgs s_law_done) (defBody s_law_done) (defScope s_law_done) .none kV_ldone dc_ldone pm_ldone an_ldone cd_ldone ct_ldone), sl_ldone⟩)
    (c_ldone : PySem.W.codeIn K cd_ldone "_law_done" = true)
    (k_ldone : PySem.W.keepIn K (.ref f_ldone) = true)
    (a_lasked : PySem.W.nsIn K mainGlobals "_law_asked" = some (some (.ref f_lasked)))
    (l_lasked : K.lookup f_lasked = some ⟨oc_lasked, od_lasked, .func (PySem.W.fnOf "_law_asked" "_law_asked" (defArgs s_law_asked) (defBody s_law_asked) (defScope s_law_asked) .none kV_lasked dc_lasked pm_lasked an_lasked cd_lasked ct_lasked), sl_lasked⟩)
    (c_lasked : PySem.W.codeIn K cd_lasked "_law_asked" = true)
    (k_lasked : PySem.W.keepIn K (.ref f_lasked) = true)
    (a_BWhere : PySem.W.findIn K (.ref CB) "where" = some (some (.ref f_BWhere)))
    (i_BWhere : PySem.W.isFn K (.ref f_BWhere) = true)
    (l_BWhere : K.lookup f_BWhere = some ⟨oc_BWhere, od_BWhere, .func (PySem.W.fnOf "where" "Book.where" (defArgs sBook_where) (defBody sBook_where) (defScope sBook_where) .none kV_BWhere dc_BWhere pm_BWhere an_BWhere cd_BWhere ct_BWhere), sl_BWhere⟩)
    (c_BWhere : PySem.W.codeIn K cd_BWhere "Book.where" = true)
    (k_BWhere : PySem.W.keepIn K (.ref f_BWhere) = true)
    (a_BLying : PySem.W.findIn K (.ref CB) "lying" = some (some (.ref f_BLying)))
    (i_BLying : PySem.W.isFn K (.ref f_BLying) = true)
    (l_BLying : K.lookup f_BLying = some ⟨oc_BLying, od_BLying, .func (PySem.W.fnOf "lying" "Book.lying" (defArgs sBook_lying) (defBody sBook_lying) (defScope sBook_lying) .none kV_BLying dc_BLying pm_BLying an_BLying cd_BLying ct_BLying), sl_BLying⟩)
    (c_BLying : PySem.W.codeIn K cd_BLying "Book.lying" = true)
    (k_BLying : PySem.W.keepIn K (.ref f_BLying) = true)
    (a_llw : PySem.W.nsIn K mainGlobals "_law_where" = some (some (.ref f_llw)))
    (l_llw : K.lookup f_llw = some ⟨oc_llw, od_llw, .func (PySem.W.fnOf "_law_where" "_law_where" (defArgs s_law_where) (defBody s_law_where) (defScope s_law_where) .none kV_llw dc_llw pm_llw an_llw cd_llw ct_llw), sl_llw⟩)
    (c_llw : PySem.W.codeIn K cd_llw "_law_where" = true)
    (k_llw : PySem.W.keepIn K (.ref f_llw) = true)
    (a_llies : PySem.W.nsIn K mainGlobals "_law_lies" = some (some (.ref f_llies)))
    (l_llies : K.lookup f_llies = some ⟨oc_llies, od_llies, .func (PySem.W.fnOf "_law_lies" "_law_lies" (defArgs s_law_lies) (defBody s_law_lies) (defScope s_law_lies) .none kV_llies dc_llies pm_llies an_llies cd_llies ct_llies), sl_llies⟩)
    (c_llies : PySem.W.codeIn K cd_llies "_law_lies" = true)
    (k_llies : PySem.W.keepIn K (.ref f_llies) = true)
    (a_lnone : PySem.W.nsIn K mainGlobals "_law_none" = some (some (.ref f_lnone)))
    (l_lnone : K.lookup f_lnone = some ⟨oc_lnone, od_lnone, .func (PySem.W.fnOf "_law_none" "_law_none" (defArgs s_law_none) (defBody s_law_none) (defScope s_law_none) .none kV_lnone dc_lnone pm_lnone an_lnone cd_lnone ct_lnone), sl_lnone⟩)
    (c_lnone : PySem.W.codeIn K cd_lnone "_law_none" = true)
    (k_lnone : PySem.W.keepIn K (.ref f_lnone) = true)
    (a_law : PySem.W.nsIn K mainGlobals "law" = some (some (.ref f_law)))
    (l_law : K.lookup f_law = some ⟨oc_law, od_law, .func (PySem.W.fnOf "law" "law" (defArgs s_law) (defBody s_law) (defScope s_law) .none kV_law dc_law pm_law an_law cd_law ct_law), sl_law⟩)
    (c_law : PySem.W.codeIn K cd_law "law" = true)
    (k_law : PySem.W.keepIn K (.ref f_law) = true)
    : ∃ fd : FuncData, (∀ (s : Shared) (v : Value), BindsTo s fd ⟨[v], []⟩ [("_law_script", v)]) ∧ ∀ base : Heap, K.In base → base.Ns mainGlobals mg → FnOk P w K mg base CX0 20 fa fd ["_law_script"] (spTrue K) := by
  have e := hfa.symm.trans (PySem.W.mg_of X G a_law)
  cases e
  have i_tuple := PySem.W.mg_none_of X G z_tuple
  have i_sum := PySem.W.mg_none_of X G z_sum
  have i_int := PySem.W.mg_none_of X G z_int
  have i_max := PySem.W.mg_none_of X G z_max
  have i_ValueError := PySem.W.mg_none_of X G z_ValueError
  have i_all := PySem.W.mg_none_of X G z_all
  have EBad : Err K mg "BadWheels" CBad CT := ⟨PySem.W.mg_of X G aBad, exBad, kpBad, tbBad, ttBad, PySem.W.exm_ref tbT thT ttT stBad, ⟨hgBad, hkBad, tbBad, thBad, haBad, objn, objt, hmBad⟩, kit_typ (by decide +kernel) svBad⟩
  have EPast : Err K mg "Past" CPast CT := ⟨PySem.W.mg_of X G aPast, exPast, kpPast, tbPast, ttPast, PySem.W.exm_ref tbT thT ttT stPast, ⟨hgPast, hkPast, tbPast, thPast, haPast, objn, objt, hmPast⟩, kit_typ (by decide +kernel) svPast⟩
  have ENot : Err K mg "NotThere" CNot CT := ⟨PySem.W.mg_of X G aNot, exNot, kpNot, tbNot, ttNot, PySem.W.exm_ref tbT thT ttT stNot, ⟨hgNot, hkNot, tbNot, thNot, haNot, objn, objt, hmNot⟩, kit_typ (by decide +kernel) svNot⟩
  have T : Txt K mg CW CA CB CT CBad CPast CNot :=
    { clW := ⟨pgW, hdW, poW, saW⟩, clA := ⟨pgA, hdA, poA, saA⟩, clB := ⟨pgB, hdB, poB, saB⟩, wSlots := nW_slots, wLevels := nW_levels, wSpans := nW_spans, wRows := nW_rows, wFar := nW_far, aName := nA_name, aWhen := nA_when, aStep := nA_step, aRest := nA_rest, bWheels := nB_wheels, bNow := nB_now, bMany := nB_many, bAlarms := nB_alarms, mgW := PySem.W.mg_of X G aW, mgA := PySem.W.mg_of X G aA, mgB := PySem.W.mg_of X G aB, mgT := PySem.W.mg_of X G aT, slots := ⟨_, PySem.W.mg_of X G cS⟩, levels := ⟨_, PySem.W.mg_of X G cL⟩, bad := EBad, past := EPast, nott := ENot, range := PySem.W.mg_none_of X G z_range, reversed := PySem.W.mg_none_of X G z_reversed, sorted := PySem.W.mg_none_of X G z_sorted, min := PySem.W.mg_none_of X G z_min, len := PySem.W.mg_none_of X G z_len, isi := PySem.W.mg_none_of X G z_isinstance, neAB := cls_ne nA_time a_BTime, neAW := cls_ne nA_put a_WPut, neBW := cls_ne nB_put a_WPut }
  have N : Kin K CBad CPast CNot := { bb := kit_self, bp := kit_ref ssBad thPast ttPast sBadPast, bn := kit_ref ssBad thNot ttNot sBadNot, pb := kit_ref ssPast thBad ttBad sPastBad, pp := kit_self, pn := kit_ref ssPast thNot ttNot sPastNot, nb := kit_ref ssNot thBad ttBad sNotBad, np := kit_ref ssNot thPast ttPast sNotPast, nn := kit_self }
  have F_WInit := fun_mk (st := sWheels_init) l_WInit c_WInit k_WInit
  have b_WInit := F_WInit.binds (ps := ["self", "slots", "levels"]) fun _ _ _ _ _ _ us hl => match us, hl with | [_, _, _], _ => rfl
  have F_WPlace := fun_mk (st := sWheels_place) l_WPlace c_WPlace k_WPlace
  have b_WPlace := F_WPlace.binds (ps := ["self", "now", "due"]) fun _ _ _ _ _ _ us hl => match us, hl with | [_, _, _], _ => rfl
  have F_WPut := fun_mk (st := sWheels_put) l_WPut c_WPut k_WPut
  have b_WPut := F_WPut.binds (ps := ["self", "now", "due", "number"]) fun _ _ _ _ _ _ us hl => match us, hl with | [_, _, _, _], _ => rfl
  have F_WSoon := fun_mk (st := sWheels_soonest) l_WSoon c_WSoon k_WSoon
  have b_WSoon := F_WSoon.binds (ps := ["self", "now"]) fun _ _ _ _ _ _ us hl => match us, hl with | [_, _], _ => rfl
  have F_WTurn := fun_mk (st := sWheels_turn) l_WTurn c_WTurn k_WTurn
  have b_WTurn := F_WTurn.binds (ps := ["self", "now", "then"]) fun _ _ _ _ _ _ us hl => match us, hl with | [_, _, _], _ => rfl
  have F_WTake := fun_mk (st := sWheels_take_now) l_WTake c_WTake k_WTake
  have b_WTake := F_WTake.binds (ps := ["self", "now"]) fun _ _ _ _ _ _ us hl => match us, hl with | [_, _], _ => rfl
  have F_AInit := fun_mk (st := sAlarm_init) l_AInit c_AInit k_AInit
  have b_AInit := F_AInit.binds (ps := ["self", "name", "due", "step"]) fun _ _ _ _ _ _ us hl => match us, hl with | [_, _, _, _], _ => rfl
  have F_BInit := fun_mk (st := sBook_init) l_BInit c_BInit k_BInit
  have b_BInit := F_BInit.binds (ps := ["self", "slots", "levels"]) fun _ _ _ _ _ _ us hl => match us, hl with | [_, _, _], _ => rfl
  have F_BTime := fun_mk (st := sBook_time) l_BTime c_BTime k_BTime
  have b_BTime := F_BTime.binds (ps := ["self"]) fun _ _ _ _ _ _ us hl => match us, hl with | [_], _ => rfl
  have F_BNeed := fun_mk (st := sBook_need) l_BNeed c_BNeed k_BNeed
  have b_BNeed := F_BNeed.binds (ps := ["self", "number", "rests"]) fun _ _ _ _ _ _ us hl => match us, hl with | [_, _, _], _ => rfl
  have F_BSoon := fun_mk (st := sBook_soonest) l_BSoon c_BSoon k_BSoon
  have b_BSoon := F_BSoon.binds (ps := ["self"]) fun _ _ _ _ _ _ us hl => match us, hl with | [_], _ => rfl
  have F_set := fun_mk (st := s_set_alarm) l_set c_set k_set
  have b_set := F_set.binds (ps := ["book", "name", "due", "step"]) fun _ _ _ _ _ _ us hl => match us, hl with | [_, _, _, _], _ => rfl
  have F_ring := fun_mk (st := s_ring) l_ring c_ring k_ring
  have b_ring := F_ring.binds (ps := ["book", "number"]) fun _ _ _ _ _ _ us hl => match us, hl with | [_, _], _ => rfl
  have F_step := fun_mk (st := s_step_to) l_step c_step k_step
  have b_step := F_step.binds (ps := ["book", "then"]) fun _ _ _ _ _ _ us hl => match us, hl with | [_, _], _ => rfl
  have F_pass := fun_mk (st := s_pass_ticks) l_pass c_pass k_pass
  have b_pass := F_pass.binds (ps := ["book", "ticks"]) fun _ _ _ _ _ _ us hl => match us, hl with | [_, _], _ => rfl
  have F_WDrop := fun_mk (st := sWheels_drop) l_WDrop c_WDrop k_WDrop
  have b_WDrop := F_WDrop.binds (ps := ["self", "now", "due", "number"]) fun _ _ _ _ _ _ us hl => match us, hl with | [_, _, _, _], _ => rfl
  have F_back := fun_mk (st := s_take_back) l_back c_back k_back
  have b_back := F_back.binds (ps := ["book", "number"]) fun _ _ _ _ _ _ us hl => match us, hl with | [_, _], _ => rfl
  have F_move := fun_mk (st := s_move) l_move c_move k_move
  have b_move := F_move.binds (ps := ["book", "number", "due"]) fun _ _ _ _ _ _ us hl => match us, hl with | [_, _, _], _ => rfl
  have F_rest := fun_mk (st := s_rest) l_rest c_rest k_rest
  have b_rest := F_rest.binds (ps := ["book", "number"]) fun _ _ _ _ _ _ us hl => match us, hl with | [_, _], _ => rfl
  have F_go := fun_mk (st := s_go_on) l_go c_go k_go
  have b_go := F_go.binds (ps := ["book", "number"]) fun _ _ _ _ _ _ us hl => match us, hl with | [_, _], _ => rfl
  have F_lcell := fun_mk (st := s_law_cell) l_lcell c_lcell k_lcell
  have b_lcell := F_lcell.binds (ps := ["_law_script", "_law_k"]) fun _ _ _ _ _ _ us hl => match us, hl with | [_, _], _ => rfl
  have F_lmix := fun_mk (st := s_law_mix) l_lmix c_lmix k_lmix
  have b_lmix := F_lmix.binds (ps := ["_law_script", "_law_k"]) fun _ _ _ _ _ _ us hl => match us, hl with | [_, _], _ => rfl
  have F_lnew := fun_mk (st := s_law_new) l_lnew c_lnew k_lnew
  have b_lnew := F_lnew.binds (ps := ["_law_slots", "_law_levels"]) fun _ _ _ _ _ _ us hl => match us, hl with | [_, _], _ => rfl
  have F_lwheels := fun_mk (st := s_law_wheels) l_lwheels c_lwheels k_lwheels
  have b_lwheels := F_lwheels.binds (ps := ["_law_script", "_law_k"]) fun _ _ _ _ _ _ us hl => match us, hl with | [_, _], _ => rfl
  have F_lticks := fun_mk (st := s_law_ticks) l_lticks c_lticks k_lticks
  have b_lticks := F_lticks.binds (ps := ["_law_script", "_law_k", "_law_world"]) fun _ _ _ _ _ _ us hl => match us, hl with | [_, _, _], _ => rfl
  have F_lset := fun_mk (st := s_law_set) l_lset c_lset k_lset
  have b_lset := F_lset.binds (ps := ["_law_world", "_law_name", "_law_due", "_law_step"]) fun _ _ _ _ _ _ us hl => match us, hl with | [_, _, _, _], _ => rfl
  have F_lmove := fun_mk (st := s_law_move) l_lmove c_lmove k_lmove
  have b_lmove := F_lmove.binds (ps := ["_law_world", "_law_number", "_law_due"]) fun _ _ _ _ _ _ us hl => match us, hl with | [_, _, _], _ => rfl
  have F_lback := fun_mk (st := s_law_back) l_lback c_lback k_lback
  have b_lback := F_lback.binds (ps := ["_law_world", "_law_number"]) fun _ _ _ _ _ _ us hl => match us, hl with | [_, _], _ => rfl
  have F_lrest := fun_mk (st := s_law_rest) l_lrest c_lrest k_lrest
  have b_lrest := F_lrest.binds (ps := ["_law_world", "_law_number"]) fun _ _ _ _ _ _ us hl => match us, hl with | [_, _], _ => rfl
  have F_lon := fun_mk (st := s_law_on) l_lon c_lon k_lon
  have b_lon := F_lon.binds (ps := ["_law_world", "_law_number"]) fun _ _ _ _ _ _ us hl => match us, hl with | [_, _], _ => rfl
  have F_lpass := fun_mk (st := s_law_pass) l_lpass c_lpass k_lpass
  have b_lpass := F_lpass.binds (ps := ["_law_world", "_law_ticks_here"]) fun _ _ _ _ _ _ us hl => match us, hl with | [_, _], _ => rfl
  have F_ldeed := fun_mk (st := s_law_deed) l_ldeed c_ldeed k_ldeed
  have b_ldeed := F_ldeed.binds (ps := ["_law_script", "_law_k", "_law_world"]) fun _ _ _ _ _ _ us hl => match us, hl with | [_, _, _], _ => rfl
  have F_ldone := fun_mk (st := s_law_done) l_ldone c_ldone k_ldone
  have b_ldone := F_ldone.binds (ps := ["_law_world", "_law_deed_here"]) fun _ _ _ _ _ _ us hl => match us, hl with | [_, _], _ => rfl
  have F_lasked := fun_mk (st := s_law_asked) l_lasked c_lasked k_lasked
  have b_lasked := F_lasked.binds (ps := ["_law_book", "_law_deed_here"]) fun _ _ _ _ _ _ us hl => match us, hl with | [_, _], _ => rfl
  have F_BWhere := fun_mk (st := sBook_where) l_BWhere c_BWhere k_BWhere
  have b_BWhere := F_BWhere.binds (ps := ["self", "number"]) fun _ _ _ _ _ _ us hl => match us, hl with | [_, _], _ => rfl
  have F_BLying := fun_mk (st := sBook_lying) l_BLying c_BLying k_BLying
  have b_BLying := F_BLying.binds (ps := ["self", "level", "slot"]) fun _ _ _ _ _ _ us hl => match us, hl with | [_, _, _], _ => rfl
  have F_llw := fun_mk (st := s_law_where) l_llw c_llw k_llw
  have b_llw := F_llw.binds (ps := ["_law_world", "_law_due"]) fun _ _ _ _ _ _ us hl => match us, hl with | [_, _], _ => rfl
  have F_llies := fun_mk (st := s_law_lies) l_llies c_llies k_llies
  have b_llies := F_llies.binds (ps := ["_law_book", "_law_world"]) fun _ _ _ _ _ _ us hl => match us, hl with | [_, _], _ => rfl
  have F_lnone := fun_mk (st := s_law_none) l_lnone c_lnone k_lnone
  have b_lnone := F_lnone.binds (ps := ["_law_book", "_law_number"]) fun _ _ _ _ _ _ us hl => match us, hl with | [_, _], _ => rfl
  have F_law := fun_mk (st := s_law) l_law c_law k_law
  refine ⟨PySem.W.fnOf "law" "law" (defArgs s_law) (defBody s_law) (defScope s_law) .none kV_law dc_law pm_law an_law cd_law ct_law, fun s v => .of_eq rfl, fun base _ _ => ?_⟩
  have G_WInit : GMk P w K mg base (L2.CX P w) 1 CW ["self", "slots", "levels"] _ := ⟨_, _, ⟨mkW, a_WInit, i_WInit, kcW⟩, b_WInit, ok_WInit F_WInit T⟩
  have G_WPlace : GMe P w K mg base CX0 1 CW "place" ["self", "now", "due"] _ := ⟨_, _, ⟨a_WPlace, i_WPlace, k_WPlace⟩, b_WPlace, ok_Place F_WPlace T⟩
  have G_WPut : GMe P w K mg base CX0 2 CW "put" ["self", "now", "due", "number"] _ := ⟨_, _, ⟨a_WPut, i_WPut, k_WPut⟩, b_WPut, ok_Put F_WPut T G_WPlace⟩
  have G_WSoon : GMe P w K mg base CX0 1 CW "soonest" ["self", "now"] _ := ⟨_, _, ⟨a_WSoon, i_WSoon, k_WSoon⟩, b_WSoon, ok_Soonest F_WSoon T⟩
  have G_WTurn : GMe P w K mg base CX0 3 CW "turn" ["self", "now", "then"] _ := ⟨_, _, ⟨a_WTurn, i_WTurn, k_WTurn⟩, b_WTurn, ok_Turn F_WTurn T G_WPut⟩
  have G_WTake : GMe P w K mg base CX0 1 CW "take_now" ["self", "now"] _ := ⟨_, _, ⟨a_WTake, i_WTake, k_WTake⟩, b_WTake, ok_Take F_WTake T⟩
  have G_AInit : GMk P w K mg base CX0 1 CA ["self", "name", "due", "step"] _ := ⟨_, _, ⟨mkA, a_AInit, i_AInit, kcA⟩, b_AInit, ok_AInit F_AInit T⟩
  have G_BInit : GMk P w K mg base (L2.CX P w) 3 CB ["self", "slots", "levels"] _ := ⟨_, _, ⟨mkB, a_BInit, i_BInit, kcB⟩, b_BInit, ok_BInit F_BInit T G_WInit⟩
  have G_BTime : GMe P w K mg base CX0 1 CB "time" ["self"] _ := ⟨_, _, ⟨a_BTime, i_BTime, k_BTime⟩, b_BTime, ok_Time F_BTime T⟩
  have G_BNeed : GMe P w K mg base (L2.CX P w) 1 CB "need" ["self", "number", "rests"] _ := ⟨_, _, ⟨a_BNeed, i_BNeed, k_BNeed⟩, b_BNeed, ok_Need F_BNeed T⟩
  have G_BSoon : GMe P w K mg base CX0 2 CB "soonest" ["self"] _ := ⟨_, _, ⟨a_BSoon, i_BSoon, k_BSoon⟩, b_BSoon, ok_BSoon F_BSoon T G_WSoon⟩
  have G_set : GFn P w K mg base (L2.CX P w) 3 "set_alarm" ["book", "name", "due", "step"] _ := ⟨_, _, PySem.W.mg_of X G a_set, k_set, b_set, ok_Set F_set T G_WPut G_AInit⟩
  have G_ring : GFn P w K mg base CX0 3 "ring" ["book", "number"] _ := ⟨_, _, PySem.W.mg_of X G a_ring, k_ring, b_ring, ok_Ring F_ring T G_WPut⟩
  have G_step : GFn P w K mg base CX0 4 "step_to" ["book", "then"] _ := ⟨_, _, PySem.W.mg_of X G a_step, k_step, b_step, ok_Step F_step T G_WTurn⟩
  have G_pass : GFn P w K mg base (L2.CX P w) 5 "pass_ticks" ["book", "ticks"] _ := ⟨_, _, PySem.W.mg_of X G a_pass, k_pass, b_pass, ok_Pass F_pass T G_step G_ring G_WTake G_BSoon⟩
  have G_WDrop : GMe P w K mg base CX0 2 CW "drop" ["self", "now", "due", "number"] _ := ⟨_, _, ⟨a_WDrop, i_WDrop, k_WDrop⟩, b_WDrop, ok_Drop F_WDrop T G_WPlace⟩
  have G_back : GFn P w K mg base (L2.CX P w) 3 "take_back" ["book", "number"] _ := ⟨_, _, PySem.W.mg_of X G a_back, k_back, b_back, ok_Back F_back T G_WDrop⟩
  have G_move : GFn P w K mg base (L2.CX P w) 3 "move" ["book", "number", "due"] _ := ⟨_, _, PySem.W.mg_of X G a_move, k_move, b_move, ok_Move F_move T G_BNeed G_WDrop G_WPut⟩
  have G_rest : GFn P w K mg base (L2.CX P w) 3 "rest" ["book", "number"] _ := ⟨_, _, PySem.W.mg_of X G a_rest, k_rest, b_rest, ok_Rest F_rest T G_BNeed G_WDrop⟩
  have G_go : GFn P w K mg base (L2.CX P w) 3 "go_on" ["book", "number"] _ := ⟨_, _, PySem.W.mg_of X G a_go, k_go, b_go, ok_Go F_go T G_BNeed G_WPut⟩
  have G_lcell : GFn P w K mg base CX0 1 "_law_cell" ["_law_script", "_law_k"] _ := ⟨_, _, PySem.W.mg_of X G a_lcell, k_lcell, b_lcell, ok_Ce F_lcell T⟩
  have G_lmix : GFn P w K mg base CX0 2 "_law_mix" ["_law_script", "_law_k"] _ := ⟨_, _, PySem.W.mg_of X G a_lmix, k_lmix, b_lmix, ok_Mix F_lmix G_lcell⟩
  have G_lnew : GFn P w K mg base CX0 1 "_law_new" ["_law_slots", "_law_levels"] _ := ⟨_, _, PySem.W.mg_of X G a_lnew, k_lnew, b_lnew, ok_New F_lnew ⟩
  have G_lwheels : GFn P w K mg base CX0 3 "_law_wheels" ["_law_script", "_law_k"] _ := ⟨_, _, PySem.W.mg_of X G a_lwheels, k_lwheels, b_lwheels, ok_LW F_lwheels G_lmix⟩
  have G_lticks : GFn P w K mg base CX0 3 "_law_ticks" ["_law_script", "_law_k", "_law_world"] _ := ⟨_, _, PySem.W.mg_of X G a_lticks, k_lticks, b_lticks, ok_LT F_lticks T G_lmix⟩
  have G_lset : GFn P w K mg base CX0 1 "_law_set" ["_law_world", "_law_name", "_law_due", "_law_step"] _ := ⟨_, _, PySem.W.mg_of X G a_lset, k_lset, b_lset, ok_WSet F_lset ⟩
  have G_lmove : GFn P w K mg base CX0 1 "_law_move" ["_law_world", "_law_number", "_law_due"] _ := ⟨_, _, PySem.W.mg_of X G a_lmove, k_lmove, b_lmove, ok_WMove F_lmove ⟩
  have G_lback : GFn P w K mg base CX0 1 "_law_back" ["_law_world", "_law_number"] _ := ⟨_, _, PySem.W.mg_of X G a_lback, k_lback, b_lback, ok_WBack F_lback ⟩
  have G_lrest : GFn P w K mg base CX0 1 "_law_rest" ["_law_world", "_law_number"] _ := ⟨_, _, PySem.W.mg_of X G a_lrest, k_lrest, b_lrest, ok_WRest F_lrest ⟩
  have G_lon : GFn P w K mg base CX0 1 "_law_on" ["_law_world", "_law_number"] _ := ⟨_, _, PySem.W.mg_of X G a_lon, k_lon, b_lon, ok_WOn F_lon ⟩
  have G_lpass : GFn P w K mg base CX0 1 "_law_pass" ["_law_world", "_law_ticks_here"] _ := ⟨_, _, PySem.W.mg_of X G a_lpass, k_lpass, b_lpass, ok_WPass F_lpass T⟩
  have G_ldeed : GFn P w K mg base CX0 4 "_law_deed" ["_law_script", "_law_k", "_law_world"] _ := ⟨_, _, PySem.W.mg_of X G a_ldeed, k_ldeed, b_ldeed, ok_Deed F_ldeed i_sum i_int i_max G_lmix G_lticks⟩
  have G_ldone : GFn P w K mg base CX0 2 "_law_done" ["_law_world", "_law_deed_here"] _ := ⟨_, _, PySem.W.mg_of X G a_ldone, k_ldone, b_ldone, ok_Done F_ldone G_lset G_lpass G_lmove G_lback G_lrest G_lon⟩
  have G_lasked : GFn P w K mg base CX0 6 "_law_asked" ["_law_book", "_law_deed_here"] _ := ⟨_, _, PySem.W.mg_of X G a_lasked, k_lasked, b_lasked, ok_Asked F_lasked T N i_ValueError G_set G_pass G_move G_back G_rest G_go⟩
  have G_BWhere : GMe P w K mg base (L2.CX P w) 2 CB "where" ["self", "number"] _ := ⟨_, _, ⟨a_BWhere, i_BWhere, k_BWhere⟩, b_BWhere, ok_Where F_BWhere T G_BNeed G_WPlace⟩
  have G_BLying : GMe P w K mg base CX0 1 CB "lying" ["self", "level", "slot"] _ := ⟨_, _, ⟨a_BLying, i_BLying, k_BLying⟩, b_BLying, ok_Lying F_BLying T⟩
  have G_llw : GFn P w K mg base CX0 1 "_law_where" ["_law_world", "_law_due"] _ := ⟨_, _, PySem.W.mg_of X G a_llw, k_llw, b_llw, ok_LWhere F_llw T⟩
  have G_llies : GFn P w K mg base CX0 3 "_law_lies" ["_law_book", "_law_world"] _ := ⟨_, _, PySem.W.mg_of X G a_llies, k_llies, b_llies, ok_Lies F_llies T i_tuple G_llw G_BWhere G_BLying⟩
  have G_lnone : GFn P w K mg base CX0 3 "_law_none" ["_law_book", "_law_number"] _ := ⟨_, _, PySem.W.mg_of X G a_lnone, k_lnone, b_lnone, ok_LNone F_lnone T N G_BWhere⟩
  exact ok_Law F_law T i_all G_lmix G_lwheels G_lnew G_ldeed G_lasked G_ldone G_llies G_lnone G_BInit
theorem walk1 {k : Nat} (hk : k ≤ 60) {l : PySem.W.OpenLaw} {q : Program} {loose : List Str} {XP : (Str → Option Value) → Heap → Prop} {YP : World → Heap → Prop} {d : DefRec} {K : Params → PySem.W.Frag} (hn : l.most = some 63) (hdf : d.params.defaults = [])
    (hY : ∀ (w : World) (h : Heap), YP w h → (K w.params).In h)
    (F : ∀ (w : World) (mg : Str → Option Value) (fa : Addr) (h : Heap), (K w.params).In h → h.Ns mainGlobals mg → mg d.name = some (.ref fa) →
      ∃ fd : FuncData, (∀ (s : Shared) (u : Value), BindsTo s fd ⟨[u], []⟩ [("_law_script", u)]) ∧ ∀ base : Heap, (K w.params).In base → base.Ns mainGlobals mg → FnOk l.prog w (K w.params) mg base CX0 20 fa fd ["_law_script"] (spTrue (K w.params))) :
    PySem.W.WalkO q loose XP YP l.row.toRowW d [] (fun f vs => PySem.call f vs) :=
  L2.walk_of (n := 63) (k := 20) (x := "_law_script") (CX := fun _ => CX0) (sp := fun w => spTrue (K w.params)) hn (by decide) hdf ⟨rfl, by decide, by decide⟩ hY F (fun _ _ a ns hl _ hS => ⟨a, ns, rfl, hS, hl, fun _ => rfl⟩) fun _ _ _ _ _ z => z
end L2.TK
open PySem PySem.W PyProof.Rows
set_option maxRecDepth 100000 in
set_option maxHeartbeats 0 in
theorem PySem.Challenge.cw_tickbook_k11_where_holds : PySem.Challenge.rw_tickbook_k11_where.Holds := by
  w_on; o_law; k_head; (case hw => w_witness2)
  k_fill
  refine L2.TK.walk1 (k := 20) (by decide) (l := PySem.Challenge.rw_tickbook_k11_where) rfl rfl (fun w h Y => PySem.W.kIn_of Y) ?F
  case F =>
    intro w mg fa h KX G hmg
    refine' L2.TK.topE KX G hmg ?aW ?aA ?aB ?aT ?aBad ?aPast ?aNot ?pgW ?hdW ?poW ?saW ?mkW ?kcW ?pgA ?hdA ?poA ?saA ?mkA ?kcA ?pgB ?hdB ?poB ?saB ?mkB ?kcB ?nW_slots ?nW_levels ?nW_spans ?nW_rows ?nW_far ?nA_name ?nA_when ?nA_step ?nA_rest ?nB_wheels ?nB_now ?nB_many ?nB_alarms ?nA_time ?nA_put ?nB_put ?cS ?cL ?z_range ?z_reversed ?z_sorted ?z_min ?z_len ?z_isinstance ?z_tuple ?z_sum ?z_int ?z_max ?z_ValueError ?z_all ?tbT ?thT ?ttT ?tbBad ?thBad ?ttBad ?tbPast ?thPast ?ttPast ?tbNot ?thNot ?ttNot ?exBad ?kpBad ?stBad ?svBad ?hgBad ?hkBad ?haBad ?hmBad ?ssBad ?sBadPast ?sBadNot ?exPast ?kpPast ?stPast ?svPast ?hgPast ?hkPast ?haPast ?hmPast ?ssPast ?sPastBad ?sPastNot ?exNot ?kpNot ?stNot ?svNot ?hgNot ?hkNot ?haNot ?hmNot ?ssNot ?sNotBad ?sNotPast ?objn ?objt ?a_WInit ?i_WInit ?l_WInit ?c_WInit ?k_WInit ?a_WPlace ?i_WPlace ?l_WPlace ?c_WPlace ?k_WPlace ?a_WPut ?i_WPut ?l_WPut ?c_WPut ?k_WPut ?a_WSoon ?i_WSoon ?l_WSoon ?c_WSoon ?k_WSoon ?a_WTurn ?i_WTurn ?l_WTurn ?c_WTurn ?k_WTurn ?a_WTake ?i_WTake ?l_WTake ?c_WTake ?k_WTake ?a_AInit ?i_AInit ?l_AInit ?c_AInit ?k_AInit ?a_BInit ?i_BInit ?l_BInit ?c_BInit ?k_BInit ?a_BTime ?i_BTime ?l_BTime ?c_BTime ?k_BTime ?a_BNeed ?i_BNeed ?l_BNeed ?c_BNeed ?k_BNeed ?a_BSoon ?i_BSoon ?l_BSoon ?c_BSoon ?k_BSoon ?a_set ?l_set ?c_set ?k_set ?a_ring ?l_ring ?c_ring ?k_ring ?a_step ?l_step ?c_step ?k_step ?a_pass ?l_pass ?c_pass ?k_pass ?a_WDrop ?i_WDrop ?l_WDrop ?c_WDrop ?k_WDrop ?a_back ?l_back ?c_back ?k_back ?a_move ?l_move ?c_move ?k_move ?a_rest ?l_rest ?c_rest ?k_rest ?a_go ?l_go ?c_go ?k_go ?a_lcell ?l_lcell ?c_lcell ?k_lcell ?a_lmix ?l_lmix ?c_lmix ?k_lmix ?a_lnew ?l_lnew ?c_lnew ?k_lnew ?a_lwheels ?l_lwheels ?c_lwheels ?k_lwheels ?a_lticks ?l_lticks ?c_lticks ?k_lticks ?a_lset ?l_lset ?c_lset ?k_lset ?a_lmove ?l_lmove ?c_lmove ?k_lmove ?a_lback ?l_lback ?c_lback ?k_lback ?a_lrest ?l_lrest ?c_lrest ?k_lrest ?a_lon ?l_lon ?c_lon ?k_lon ?a_lpass ?l_lpass ?c_lpass ?k_lpass ?a_ldeed ?l_ldeed ?c_ldeed ?k_ldeed ?a_ldone ?l_ldone ?c_ldone ?k_ldone ?a_lasked ?l_lasked ?c_lasked ?k_lasked ?a_BWhere ?i_BWhere ?l_BWhere ?c_BWhere ?k_BWhere ?a_BLying ?i_BLying ?l_BLying ?c_BLying ?k_BLying ?a_llw ?l_llw ?c_llw ?k_llw ?a_llies ?l_llies ?c_llies ?k_llies ?a_lnone ?l_lnone ?c_lnone ?k_lnone ?a_law ?l_law ?c_law ?k_law
    (case aW => k_is)
    (case aA => k_is)
    (case aB => k_is)
    (case aT => k_is)
    (case aBad => k_is)
    (case aPast => k_is)
    (case aNot => k_is)
    (case pgW => k_is)
    (case hdW => k_is)
    (case poW => k_is)
    (case saW => k_is)
    (case mkW => k_is)
    (case kcW => k_is)
    (case pgA => k_is)
    (case hdA => k_is)
    (case poA => k_is)
    (case saA => k_is)
    (case mkA => k_is)
    (case kcA => k_is)
    (case pgB => k_is)
    (case hdB => k_is)
    (case poB => k_is)
    (case saB => k_is)
    (case mkB => k_is)
    (case kcB => k_is)
    (case nW_slots => k_is)
    (case nW_levels => k_is)
    (case nW_spans => k_is)
    (case nW_rows => k_is)
    (case nW_far => k_is)
    (case nA_name => k_is)
    (case nA_when => k_is)
    (case nA_step => k_is)
    (case nA_rest => k_is)
    (case nB_wheels => k_is)
    (case nB_now => k_is)
    (case nB_many => k_is)
    (case nB_alarms => k_is)
    (case nA_time => k_is)
    (case nA_put => k_is)
    (case nB_put => k_is)
    (case cS => k_is)
    (case cL => k_is)
    (case z_range => k_is)
    (case z_reversed => k_is)
    (case z_sorted => k_is)
    (case z_min => k_is)
    (case z_len => k_is)
    (case z_isinstance => k_is)
    (case z_tuple => k_is)
    (case z_sum => k_is)
    (case z_int => k_is)
    (case z_max => k_is)
    (case z_ValueError => k_is)
    (case z_all => k_is)
    (case tbT => k_is)
    (case thT => k_is)
    (case ttT => k_is)
    (case tbBad => k_is)
    (case thBad => k_is)
    (case ttBad => k_is)
    (case tbPast => k_is)
    (case thPast => k_is)
    (case ttPast => k_is)
    (case tbNot => k_is)
    (case thNot => k_is)
    (case ttNot => k_is)
    (case exBad => k_exc)
    (case kpBad => k_is)
    (case stBad => k_is)
    (case svBad => k_is)
    (case hgBad => k_is)
    (case hkBad => k_is)
    (case haBad => k_is)
    (case hmBad => k_is)
    (case ssBad => first | rfl | k_is)
    (case sBadPast => k_is)
    (case sBadNot => k_is)
    (case exPast => k_exc)
    (case kpPast => k_is)
    (case stPast => k_is)
    (case svPast => k_is)
    (case hgPast => k_is)
    (case hkPast => k_is)
    (case haPast => k_is)
    (case hmPast => k_is)
    (case ssPast => first | rfl | k_is)
    (case sPastBad => k_is)
    (case sPastNot => k_is)
    (case exNot => k_exc)
    (case kpNot => k_is)
    (case stNot => k_is)
    (case svNot => k_is)
    (case hgNot => k_is)
    (case hkNot => k_is)
    (case haNot => k_is)
    (case hmNot => k_is)
    (case ssNot => first | rfl | k_is)
    (case sNotBad => k_is)
    (case sNotPast => k_is)
    (case objn => k_is)
    (case objt => k_is)
    (case a_WInit => k_is)
    (case i_WInit => k_is)
    (case l_WInit => k_is)
    (case c_WInit => k_is)
    (case k_WInit => k_is)
    (case a_WPlace => k_is)
    (case i_WPlace => k_is)
    (case l_WPlace => k_is)
    (case c_WPlace => k_is)
    (case k_WPlace => k_is)
    (case a_WPut => k_is)
    (case i_WPut => k_is)
    (case l_WPut => k_is)
    (case c_WPut => k_is)
    (case k_WPut => k_is)
    (case a_WSoon => k_is)
    (case i_WSoon => k_is)
    (case l_WSoon => k_is)
    (case c_WSoon => k_is)
    (case k_WSoon => k_is)
    (case a_WTurn => k_is)
    (case i_WTurn => k_is)
    (case l_WTurn => k_is)
    (case c_WTurn => k_is)
    (case k_WTurn => k_is)
    (case a_WTake => k_is)
    (case i_WTake => k_is)
    (case l_WTake => k_is)
    (case c_WTake => k_is)
    (case k_WTake => k_is)
    (case a_AInit => k_is)
    (case i_AInit => k_is)
    (case l_AInit => k_is)
    (case c_AInit => k_is)
    (case k_AInit => k_is)
    (case a_BInit => k_is)
    (case i_BInit => k_is)
    (case l_BInit => k_is)
    (case c_BInit => k_is)
    (case k_BInit => k_is)
    (case a_BTime => k_is)
    (case i_BTime => k_is)
    (case l_BTime => k_is)
    (case c_BTime => k_is)
    (case k_BTime => k_is)
    (case a_BNeed => k_is)
    (case i_BNeed => k_is)
    (case l_BNeed => k_is)
    (case c_BNeed => k_is)
    (case k_BNeed => k_is)
    (case a_BSoon => k_is)
    (case i_BSoon => k_is)
    (case l_BSoon => k_is)
    (case c_BSoon => k_is)
    (case k_BSoon => k_is)
    (case a_set => k_is)
    (case l_set => k_is)
    (case c_set => k_is)
    (case k_set => k_is)
    (case a_ring => k_is)
    (case l_ring => k_is)
    (case c_ring => k_is)
    (case k_ring => k_is)
    (case a_step => k_is)
    (case l_step => k_is)
    (case c_step => k_is)
    (case k_step => k_is)
    (case a_pass => k_is)
    (case l_pass => k_is)
    (case c_pass => k_is)
    (case k_pass => k_is)
    (case a_WDrop => k_is)
    (case i_WDrop => k_is)
    (case l_WDrop => k_is)
    (case c_WDrop => k_is)
    (case k_WDrop => k_is)
    (case a_back => k_is)
    (case l_back => k_is)
    (case c_back => k_is)
    (case k_back => k_is)
    (case a_move => k_is)
    (case l_move => k_is)
    (case c_move => k_is)
    (case k_move => k_is)
    (case a_rest => k_is)
    (case l_rest => k_is)
    (case c_rest => k_is)
    (case k_rest => k_is)
    (case a_go => k_is)
    (case l_go => k_is)
    (case c_go => k_is)
    (case k_go => k_is)
    (case a_lcell => k_is)
    (case l_lcell => k_is)
    (case c_lcell => k_is)
    (case k_lcell => k_is)
    (case a_lmix => k_is)
    (case l_lmix => k_is)
    (case c_lmix => k_is)
    (case k_lmix => k_is)
    (case a_lnew => k_is)
    (case l_lnew => k_is)
    (case c_lnew => k_is)
    (case k_lnew => k_is)
    (case a_lwheels => k_is)
    (case l_lwheels => k_is)
    (case c_lwheels => k_is)
    (case k_lwheels => k_is)
    (case a_lticks => k_is)
    (case l_lticks => k_is)
    (case c_lticks => k_is)
    (case k_lticks => k_is)
    (case a_lset => k_is)
    (case l_lset => k_is)
    (case c_lset => k_is)
    (case k_lset => k_is)
    (case a_lmove => k_is)
    (case l_lmove => k_is)
    (case c_lmove => k_is)
    (case k_lmove => k_is)
    (case a_lback => k_is)
    (case l_lback => k_is)
    (case c_lback => k_is)
    (case k_lback => k_is)
    (case a_lrest => k_is)
    (case l_lrest => k_is)
    (case c_lrest => k_is)
    (case k_lrest => k_is)
    (case a_lon => k_is)
    (case l_lon => k_is)
    (case c_lon => k_is)
    (case k_lon => k_is)
    (case a_lpass => k_is)
    (case l_lpass => k_is)
    (case c_lpass => k_is)
    (case k_lpass => k_is)
    (case a_ldeed => k_is)
    (case l_ldeed => k_is)
    (case c_ldeed => k_is)
    (case k_ldeed => k_is)
    (case a_ldone => k_is)
    (case l_ldone => k_is)
    (case c_ldone => k_is)
    (case k_ldone => k_is)
    (case a_lasked => k_is)
    (case l_lasked => k_is)
    (case c_lasked => k_is)
    (case k_lasked => k_is)
    (case a_BWhere => k_is)
    (case i_BWhere => k_is)
    (case l_BWhere => k_is)
    (case c_BWhere => k_is)
    (case k_BWhere => k_is)
    (case a_BLying => k_is)
    (case i_BLying => k_is)
    (case l_BLying => k_is)
    (case c_BLying => k_is)
    (case k_BLying => k_is)
    (case a_llw => k_is)
    (case l_llw => k_is)
    (case c_llw => k_is)
    (case k_llw => k_is)
    (case a_llies => k_is)
    (case l_llies => k_is)
    (case c_llies => k_is)
    (case k_llies => k_is)
    (case a_lnone => k_is)
    (case l_lnone => k_is)
    (case c_lnone => k_is)
    (case k_lnone => k_is)
    (case a_law => k_is)
    (case l_law => k_is)
    (case c_law => k_is)
    (case k_law => k_is)
