import PyProof.Rows.All
import Wide.All
import OpenK.AllK
import Wide.FinOn
import HandS.ForMost
import HandS.ForExc
import HandS.Lambda
import KE.GoesEnum
import HandS.Zip
import HandS.Codes
import HandS.IsInst
import HandS.Deep
import HandS.TupMul
import HandS.TupAny
import HandS.Style
import HandS.RaiseMore
import HandS.Evl
import KE.KDictDisplayH
import KE.DataMinMax
import KE.SortData
import HandS.Star
import PyProof.SumWalkG
import HandS.ExcInit
import KE.KExcSuper
import HandS.TryMany
import HandS.ExcField
import KE.KExcHand
import HandS.Defaults
import KE.GoesMore
import PySem.Challenge.RW_noneleft_k22_whole_who_must_come
import HandS.CallLocal
import HandS.EndTab
import HandS.ExcIs
set_option Elab.async false
set_option linter.all false
set_option maxRecDepth 100000
/-! DL1: a data layer over the hand layer: data, known heap, owned cells, steps -/
namespace DL
open PySem PySem.Spec PyProof.Rows L2

/-! ### data -/
inductive Dat where
  | v (x : V)
  | tup (xs : List Dat)
  | lst (xs : List Dat)
  | ins (C : Addr) (ns : List Str) (xs : List Dat)
  | dic
  | scr (ns : List Int)
  | any
abbrev I (i : Int) : Dat := .v (.int i)
abbrev B (b : Bool) : Dat := .v (.bl b)
abbrev N : Dat := .v .non
abbrev R (a : Addr) : Dat := .v (.ref a)
abbrev S (x : Str) : Dat := .v (.str x)
mutual
def rp (K : PySem.W.Frag) (H : Hp) : Dat → V → Prop
  | .v x, y => y = x
  | .tup ds, y => ∃ a vs, y = .ref a ∧ H a = some (.tup vs) ∧ rps K H ds vs
  | .lst ds, y => ∃ a vs, y = .ref a ∧ H a = some (.lst vs) ∧ rps K H ds vs
  | .ins C ns ds, y => ∃ a dx vs, y = .ref a ∧ H a = some (.ins C dx (ns.zip vs)) ∧ rps K H ds vs ∧ ns.length = ds.length
  | .dic, y => ∃ a kvs, y = .ref a ∧ H a = some (.dK kvs)
  | .scr ns, y => ∃ a, y = .ref a ∧ SqL K H a (ns.map V.int)
  | .any, _ => True
def rps (K : PySem.W.Frag) (H : Hp) : List Dat → List V → Prop
  | [], vs => vs = []
  | d :: ds, vs => ∃ x r, vs = x :: r ∧ rp K H d x ∧ rps K H ds r
end
variable {K : PySem.W.Frag} {H H' H0 H0' : Hp}
theorem same_sqT {a : Addr} {xs : List V} (e : Same H H') (h : SqT K H a xs) : SqT K H' a xs := by
  rcases h with (h | ⟨o, h⟩) | h
  · exact .inl (.inl (e _ _ h))
  · exact .inl (.inr ⟨o, e _ _ h⟩)
  · exact .inr h
mutual
theorem rp_mono (e : Same H H') : ∀ (d : Dat) (y : V), rp K H d y → rp K H' d y
  | .v _, _, h => h
  | .tup ds, _, ⟨a, vs, e1, h1, h2⟩ => ⟨a, vs, e1, e _ _ h1, rps_mono e ds vs h2⟩
  | .lst ds, _, ⟨a, vs, e1, h1, h2⟩ => ⟨a, vs, e1, e _ _ h1, rps_mono e ds vs h2⟩
  | .ins _ _ ds, _, ⟨a, dx, vs, e1, h1, h2, h3⟩ => ⟨a, dx, vs, e1, e _ _ h1, rps_mono e ds vs h2, h3⟩
  | .dic, _, ⟨a, kvs, e1, h1⟩ => ⟨a, kvs, e1, e _ _ h1⟩
  | .scr _, _, ⟨a, e1, h1⟩ => ⟨a, e1, e.seq h1⟩
  | .any, _, _ => True.intro
theorem rps_mono (e : Same H H') : ∀ (ds : List Dat) (vs : List V), rps K H ds vs → rps K H' ds vs
  | [], _, h => h
  | d :: ds, _, ⟨x, r, e1, h1, h2⟩ => ⟨x, r, e1, rp_mono e d x h1, rps_mono e ds r h2⟩
end
theorem rps_len : ∀ {ds : List Dat} {vs : List V}, rps K H ds vs → vs.length = ds.length
  | [], _, h => by
    have h : _ = [] := h
    rw [h]; rfl
  | d :: ds, _, ⟨x, r, e1, h1, h2⟩ => by
    rw [e1, List.length_cons, List.length_cons, rps_len h2]
theorem rps_get : ∀ {ds : List Dat} {vs : List V} {i : Nat} {d : Dat}, rps K H ds vs → ds[i]? = some d → ∃ x, vs[i]? = some x ∧ rp K H d x
  | [], _, _, _, _, h => by simp at h
  | d :: ds, _, 0, _, ⟨x, r, e1, h1, h2⟩, h => by
    subst e1
    have e : d = _ := Option.some.inj h
    subst e
    exact ⟨x, rfl, h1⟩
  | d :: ds, _, i + 1, _, ⟨x, r, e1, h1, h2⟩, h => by
    subst e1
    exact rps_get (i := i) h2 h
theorem rps_get' : ∀ {ds : List Dat} {vs : List V} {i : Nat} {x : V}, rps K H ds vs → vs[i]? = some x → ∃ d, ds[i]? = some d ∧ rp K H d x
  | [], _, _, _, h, e => by
    have h : _ = [] := h
    rw [h] at e
    simp at e
  | d :: ds, _, 0, _, ⟨x, r, e1, h1, h2⟩, h => by
    subst e1
    have e : x = _ := Option.some.inj h
    subst e
    exact ⟨d, rfl, h1⟩
  | d :: ds, _, i + 1, _, ⟨x, r, e1, h1, h2⟩, h => by
    subst e1
    exact rps_get' (i := i) h2 h
theorem rps_append : ∀ {ds es : List Dat} {vs us : List V}, rps K H ds vs → rps K H es us → rps K H (ds ++ es) (vs ++ us)
  | [], _, _, _, h, q => by
    have h : _ = [] := h
    rw [h]
    exact q
  | d :: ds, es, _, us, ⟨x, r, e1, h1, h2⟩, q => ⟨x, r ++ us, by rw [e1]; rfl, h1, rps_append h2 q⟩
theorem rps_one {d : Dat} {x : V} (h : rp K H d x) : rps K H [d] [x] := ⟨x, [], rfl, h, rfl⟩
theorem rps_vs : ∀ (xs : List V), rps K H (xs.map Dat.v) xs
  | [] => rfl
  | x :: r => ⟨x, r, rfl, rfl, rps_vs r⟩
theorem rps_vs_eq : ∀ {xs vs : List V}, rps K H (xs.map Dat.v) vs → vs = xs
  | [], _, h => h
  | x :: r, _, ⟨y, q, e1, h1, h2⟩ => by
    have h1 : y = x := h1
    rw [e1, h1, rps_vs_eq h2]
theorem rps_ints {ns : List Int} {vs : List V} (h : rps K H (ns.map I) vs) : vs = ns.map V.int := by
  have e : ns.map I = (ns.map V.int).map Dat.v := by rw [List.map_map]; rfl
  rw [e] at h
  exact rps_vs_eq h
theorem rps_take : ∀ (n : Nat) {ds : List Dat} {vs : List V}, rps K H ds vs → rps K H (ds.take n) (vs.take n)
  | 0, _, _, _ => by rw [List.take_zero, List.take_zero]; rfl
  | n + 1, [], _, h => by
    have h : _ = [] := h
    rw [h]; rfl
  | n + 1, d :: ds, _, ⟨x, r, e1, h1, h2⟩ => by
    rw [e1]
    exact ⟨x, r.take n, rfl, h1, rps_take n h2⟩
theorem rps_drop : ∀ (n : Nat) {ds : List Dat} {vs : List V}, rps K H ds vs → rps K H (ds.drop n) (vs.drop n)
  | 0, _, _, h => h
  | n + 1, [], _, h => by
    have h : _ = [] := h
    rw [h]; rfl
  | n + 1, d :: ds, _, ⟨x, r, e1, h1, h2⟩ => by
    rw [e1]
    exact rps_drop n h2
theorem rps_cons {d : Dat} {ds : List Dat} {x : V} {r : List V} (h1 : rp K H d x) (h2 : rps K H ds r) : rps K H (d :: ds) (x :: r) := ⟨x, r, rfl, h1, h2⟩
theorem rps_of_get : ∀ {ds : List Dat} {vs : List V}, vs.length = ds.length → (∀ (i : Nat) d x, ds[i]? = some d → vs[i]? = some x → rp K H d x) → rps K H ds vs
  | [], vs, hl, _ => List.eq_nil_of_length_eq_zero hl
  | d :: ds, [], hl, _ => by simp at hl
  | d :: ds, x :: r, hl, h => ⟨x, r, rfl, h 0 d x rfl rfl, rps_of_get (by simpa using hl) fun i d' x' e1 e2 => h (i + 1) d' x' (by simpa using e1) (by simpa using e2)⟩

/-! ### owned cells -/
inductive OD where
  | lst (xs : List Dat)
  | dT (kvs : List (List Key × Dat))
  | ins (C dx : Addr) (ns : List Str) (xs : List Dat)
def rpO (K : PySem.W.Frag) (H0 : Hp) : OD → HO → Prop
  | .lst ds, ho => ∃ vs, ho = .lst vs ∧ rps K H0 ds vs
  | .dT kds, ho => ∃ kvs, ho = .dT kvs ∧ Paired (fun (p : List Key × Dat) (q : List Key × V) => p.1 = q.1 ∧ rp K H0 p.2 q.2) kds kvs
  | .ins C dx ns ds, ho => ∃ vs, ho = .ins C dx (ns.zip vs) ∧ rps K H0 ds vs ∧ ns.length = ds.length
theorem rpO_mono (e : Same H0 H0') : ∀ (od : OD) (ho : HO), rpO K H0 od ho → rpO K H0' od ho
  | .lst _, _, ⟨vs, e1, h⟩ => ⟨vs, e1, rps_mono e _ _ h⟩
  | .dT _, _, ⟨kvs, e1, h⟩ => ⟨kvs, e1, Paired.mapP h fun p q z => ⟨z.1, rp_mono e _ _ z.2⟩⟩
  | .ins _ _ _ _, _, ⟨vs, e1, h, h2⟩ => ⟨vs, e1, rps_mono e _ _ h, h2⟩
theorem rpO_ntbl {od : OD} {ho : HO} (h : rpO K H0 od ho) : ∀ ps, ho ≠ .tbl ps := fun ps z => by
  cases od with
  | lst ds => obtain ⟨vs, e, _⟩ := h; rw [e] at z; cases z
  | dT ds => obtain ⟨vs, e, _⟩ := h; rw [e] at z; cases z
  | ins C dx ns ds => obtain ⟨vs, e, _⟩ := h; rw [e] at z; cases z
theorem rpO_next {od : OD} {ho : HO} (h : rpO K H0 od ho) : ∀ φ, ho ≠ .ext φ := fun ps z => by
  cases od with
  | lst ds => obtain ⟨vs, e, _⟩ := h; rw [e] at z; cases z
  | dT ds => obtain ⟨vs, e, _⟩ := h; rw [e] at z; cases z
  | ins C dx ns ds => obtain ⟨vs, e, _⟩ := h; rw [e] at z; cases z
abbrev OHp := Addr → Option OD
def put (O : OHp) (a : Addr) (o : OD) : OHp := fun b => if b = a then some o else O b
def del (O : OHp) (a : Addr) : OHp := fun b => if b = a then none else O b
theorem put_same {O : OHp} {a : Addr} {o : OD} : put O a o a = some o := by unfold put; rw [if_pos rfl]
theorem put_ne {O : OHp} {a b : Addr} {o : OD} (h : b ≠ a) : put O a o b = O b := by unfold put; rw [if_neg h]
theorem del_same {O : OHp} {a : Addr} : del O a a = none := by unfold del; rw [if_pos rfl]
theorem del_ne {O : OHp} {a b : Addr} (h : b ≠ a) : del O a b = O b := by unfold del; rw [if_neg h]
theorem put_put {O : OHp} {a : Addr} {o u : OD} : put (put O a o) a u = put O a u := by
  funext b; unfold put; split <;> rfl
theorem del_put {O : OHp} {a : Addr} {o : OD} (h : O a = none) : del (put O a o) a = O := by
  funext b; unfold del put; split
  · rename_i e; rw [e, h]
  · rfl
/-- part of the owned cells -/
def Sub (O' O : OHp) : Prop := ∀ a od, O' a = some od → O a = some od
theorem Sub.refl (O : OHp) : Sub O O := fun _ _ h => h
theorem Sub.trans {O O' O'' : OHp} (a : Sub O O') (b : Sub O' O'') : Sub O O'' := fun x o h => b x o (a x o h)
theorem Sub.none {O O' : OHp} (s : Sub O' O) {a : Addr} (h : O a = none) : O' a = none := by
  cases e : O' a with
  | none => rfl
  | some o => rw [s a o e] at h; cases h
theorem sub_put {O : OHp} {a : Addr} {o : OD} (h : O a = none) : Sub O (put O a o) := fun b u e => by
  have : b ≠ a := fun z => by rw [z, h] at e; cases e
  rw [put_ne this]; exact e
theorem sub_del {O : OHp} {a : Addr} : Sub (del O a) O := fun b u e => by
  have : b ≠ a := fun z => by rw [z, del_same] at e; cases e
  rw [del_ne this] at e; exact e

/-! ### the state -/
structure StOk (T : List (Addr × Str)) (K : PySem.W.Frag) (H0 : Hp) (O : OHp) (H : Hp) : Prop where
  k : Same H0 H
  o : ∀ a od, O a = some od → H0 a = none ∧ ∃ ho, H a = some ho ∧ rpO K H0 od ho
  t : LamX.Tabs T H
  n : ∀ a ps, H0 a ≠ some (.tbl ps)
structure Step (T : List (Addr × Str)) (K : PySem.W.Frag) (H0 : Hp) (O : OHp) (H : Hp) (H0' : Hp) (O' : OHp) (H' : Hp) : Prop where
  k : Same H0 H0'
  s : StOk T K H0' O' H'
  f : ∀ a o, H a = some o → O a = none → (∀ ps, o ≠ .tbl ps) → H' a = some o ∧ O' a = none ∧ (H0 a = none → H0' a = none)
section
variable {T : List (Addr × Str)} {O O' O'' : OHp} {H'' H0'' : Hp}
theorem StOk.refl (s : StOk T K H0 O H) : Step T K H0 O H H0 O H := ⟨Same.refl _, s, fun _ _ h n _ => ⟨h, n, id⟩⟩
theorem Step.trans (a : Step T K H0 O H H0' O' H') (b : Step T K H0' O' H' H0'' O'' H'') : Step T K H0 O H H0'' O'' H'' :=
  ⟨a.k.trans b.k, b.s, fun c o h n nt => let ⟨h1, n1, k1⟩ := a.f c o h n nt; let ⟨h2, n2, k2⟩ := b.f c o h1 n1 nt; ⟨h2, n2, fun q => k2 (k1 q)⟩⟩
theorem StOk.fresh (s : StOk T K H0 O H) {p : Addr} (h : H p = none) : H0 p = none ∧ O p = none := by
  refine ⟨s.k.free h, ?_⟩
  cases e : O p with
  | none => rfl
  | some od =>
    obtain ⟨_, ho, e1, _⟩ := s.o p od e
    rw [h] at e1; cases e1
theorem same_new {p : Addr} {o : HO} (h : H p = none) : Same H (upd H p o) := fun b x e => by
  rw [upd_ne (ne_of_none e h)]
  exact e
theorem same_upd2 {p : Addr} {o : HO} (e : Same H0 H) : Same (upd H0 p o) (upd H p o) := fun b x h => by
  by_cases z : b = p
  · rw [z, upd_same] at h ⊢; exact h
  · rw [upd_ne z] at h ⊢; exact e b x h
/-- a new known object -/
theorem StOk.new (s : StOk T K H0 O H) {p : Addr} {o : HO} (h : H p = none) (nt : ∀ ps, o ≠ .tbl ps) : Step T K H0 O H (upd H0 p o) O (upd H p o) := by
  obtain ⟨h0, hO⟩ := s.fresh h
  refine ⟨same_new h0, ⟨same_upd2 s.k, fun a od e => ?_, s.t.ext (same_new h), fun a ps e => ?_⟩, fun a u e n _ => ⟨same_new h _ _ e, n, fun q => by rw [upd_ne (ne_of_none e h)]; exact q⟩⟩
  · have ne : a ≠ p := fun z => by rw [z, hO] at e; cases e
    obtain ⟨e0, ho, e1, r⟩ := s.o a od e
    exact ⟨by rw [upd_ne ne]; exact e0, ho, by rw [upd_ne ne]; exact e1, rpO_mono (same_new h0) _ _ r⟩
  · by_cases z : a = p
    · rw [z, upd_same] at e; exact nt ps (Option.some.inj e)
    · rw [upd_ne z] at e; exact s.n a ps e
/-- a new owned object -/
theorem StOk.own (s : StOk T K H0 O H) {p : Addr} {o : HO} {od : OD} (h : H p = none) (r : rpO K H0 od o) : Step T K H0 O H H0 (put O p od) (upd H p o) := by
  obtain ⟨h0, hO⟩ := s.fresh h
  refine ⟨Same.refl _, ⟨s.k.trans (same_new h), fun a od' e => ?_, s.t.ext (same_new h), s.n⟩, fun a u e n _ => ⟨same_new h _ _ e, ?_, id⟩⟩
  · by_cases z : a = p
    · rw [z, put_same] at e
      have e := Option.some.inj e
      subst e
      exact ⟨by rw [z]; exact h0, o, by rw [z, upd_same], r⟩
    · rw [put_ne z] at e
      obtain ⟨e0, ho, e1, r'⟩ := s.o a od' e
      exact ⟨e0, ho, by rw [upd_ne z]; exact e1, r'⟩
  · rw [put_ne (ne_of_none e h)]; exact n
theorem tabs_upd {p : Addr} {o o' : HO} (t : LamX.Tabs T H) (h : H p = some o) (nt : ∀ ps, o ≠ .tbl ps) (nx : ∀ φ, o ≠ .ext φ) : LamX.Tabs T (upd H p o') := fun q hq => by
  obtain ⟨ps, h1, h2, h3⟩ := t q hq
  refine ⟨ps, ?_, h2, fun pos cv hc => ?_⟩
  · rw [upd_ne (ne_of h1 h (fun z => nt ps z.symm))]; exact h1
  · obtain ⟨c, e1, e2⟩ := h3 pos cv hc
    exact ⟨c, e1, by rw [upd_ne (ne_of e2 h (fun z => nx _ z.symm))]; exact e2⟩
/-- an owned object written -/
theorem StOk.write (s : StOk T K H0 O H) {p : Addr} {o : HO} {od od' : OD} (h : O p = some od) (r : rpO K H0 od' o) : Step T K H0 O H H0 (put O p od') (upd H p o) := by
  obtain ⟨h0, ho, e1, r0⟩ := s.o p od h
  refine ⟨Same.refl _, ⟨fun a u e => ?_, fun a od2 e => ?_, tabs_upd s.t e1 (rpO_ntbl r0) (rpO_next r0), s.n⟩, fun a u e n _ => ?_⟩
  · rw [upd_ne (ne_of_none e h0)]; exact s.k a u e
  · by_cases z : a = p
    · rw [z, put_same] at e
      have e := Option.some.inj e
      subst e
      exact ⟨by rw [z]; exact h0, o, by rw [z, upd_same], r⟩
    · rw [put_ne z] at e
      obtain ⟨e0, ho2, e2, r'⟩ := s.o a od2 e
      exact ⟨e0, ho2, by rw [upd_ne z]; exact e2, r'⟩
  · have ne : a ≠ p := fun z => by rw [z, h] at n; cases n
    exact ⟨by rw [upd_ne ne]; exact e, by rw [put_ne ne]; exact n, id⟩
/-- owned cells forgotten -/
theorem StOk.forget (s : StOk T K H0 O H) (h : Sub O' O) : Step T K H0 O H H0 O' H :=
  ⟨Same.refl _, ⟨s.k, fun a od e => s.o a od (h a od e), s.t, s.n⟩, fun _ _ e n _ => ⟨e, h.none n, id⟩⟩
/-- an owned list becomes known -/
theorem StOk.freeze (s : StOk T K H0 O H) {p : Addr} {ds : List Dat} (h : O p = some (.lst ds)) : ∃ H0', Step T K H0 O H H0' (del O p) H ∧ rp K H0' (.lst ds) (.ref p) := by
  obtain ⟨h0, ho, e1, vs, e2, r⟩ := s.o p _ h
  subst e2
  have sm : Same H0 (upd H0 p (.lst vs)) := same_new h0
  refine ⟨upd H0 p (.lst vs), ⟨sm, ⟨fun a u e => ?_, fun a od e => ?_, s.t, fun a ps e => ?_⟩, fun a u e n _ => ⟨e, ?_, fun q => ?_⟩⟩, ⟨p, vs, rfl, upd_same, rps_mono sm _ _ r⟩⟩
  · by_cases z : a = p
    · rw [z, upd_same] at e; rw [z, e1]; exact e
    · rw [upd_ne z] at e; exact s.k a u e
  · have ne : a ≠ p := fun z => by rw [z, del_same] at e; cases e
    rw [del_ne ne] at e
    obtain ⟨e0, ho, e2, r'⟩ := s.o a od e
    exact ⟨by rw [upd_ne ne]; exact e0, ho, e2, rpO_mono sm _ _ r'⟩
  · by_cases z : a = p
    · rw [z, upd_same] at e; cases e
    · rw [upd_ne z] at e; exact s.n a ps e
  · have ne : a ≠ p := fun z => by rw [z, h] at n; cases n
    rw [del_ne ne]; exact n
  · have ne : a ≠ p := fun z => by rw [z, h] at n; cases n
    rw [upd_ne ne]; exact q
/-- an owned instance becomes known -/
theorem StOk.freezeI (s : StOk T K H0 O H) {p C dx : Addr} {ns : List Str} {ds : List Dat} (h : O p = some (.ins C dx ns ds)) : ∃ H0', Step T K H0 O H H0' (del O p) H ∧ rp K H0' (.ins C ns ds) (.ref p) := by
  obtain ⟨h0, ho, e1, vs, e2, r, hl⟩ := s.o p _ h
  subst e2
  have sm : Same H0 (upd H0 p (.ins C dx (ns.zip vs))) := same_new h0
  refine ⟨upd H0 p (.ins C dx (ns.zip vs)), ⟨sm, ⟨fun a u e => ?_, fun a od e => ?_, s.t, fun a ps e => ?_⟩, fun a u e n q => ?_⟩, ⟨p, dx, vs, rfl, upd_same, rps_mono sm _ _ r, hl⟩⟩
  · by_cases z : a = p
    · rw [z, upd_same] at e; rw [z, e1]; exact e
    · rw [upd_ne z] at e; exact s.k a u e
  · have ne : a ≠ p := fun z => by rw [z, del_same] at e; cases e
    rw [del_ne ne] at e
    obtain ⟨e0, ho, e2, r'⟩ := s.o a od e
    exact ⟨by rw [upd_ne ne]; exact e0, ho, e2, rpO_mono sm _ _ r'⟩
  · by_cases z : a = p
    · rw [z, upd_same] at e; cases e
    · rw [upd_ne z] at e; exact s.n a ps e
  · have ne : a ≠ p := fun z => by rw [z, h] at n; cases n
    exact ⟨e, by rw [del_ne ne]; exact n, fun q => by rw [upd_ne ne]; exact q⟩
/-- an object beside both is written -/
theorem Step.aside (s : Step T K H0 O H H0' O' H') {D : Addr} {o o' : HO} (hD : H D = none) (h : H' D = some o) (h0 : H0' D = none) (hO : O' D = none) (nt : ∀ ps, o ≠ .tbl ps) (nx : ∀ φ, o ≠ .ext φ) : Step T K H0 O H H0' O' (upd H' D o') := by
  refine ⟨s.k, ⟨fun a u e => ?_, fun a od e => ?_, tabs_upd s.s.t h nt nx, s.s.n⟩, fun a u e n q => ?_⟩
  · rw [upd_ne (ne_of_none e h0)]; exact s.s.k a u e
  · have ne : a ≠ D := fun z => by rw [z, hO] at e; cases e
    obtain ⟨e0, ho, e1, r⟩ := s.s.o a od e
    exact ⟨e0, ho, by rw [upd_ne ne]; exact e1, r⟩
  · obtain ⟨e1, e2, e3⟩ := s.f a u e n q
    exact ⟨by rw [upd_ne (ne_of_none e hD)]; exact e1, e2, e3⟩
theorem Step.asideNew (s : Step T K H0 O H H0' O' H') {D : Addr} {o' : HO} (h : H' D = none) (hD : H D = none) : Step T K H0 O H H0' O' (upd H' D o') := by
  obtain ⟨h0, hO⟩ := s.s.fresh h
  refine ⟨s.k, ⟨s.s.k.trans (same_new h), fun a od e => ?_, s.s.t.ext (same_new h), s.s.n⟩, fun a u e n q => ?_⟩
  · have ne : a ≠ D := fun z => by rw [z, hO] at e; cases e
    obtain ⟨e0, ho, e1, r⟩ := s.s.o a od e
    exact ⟨e0, ho, by rw [upd_ne ne]; exact e1, r⟩
  · obtain ⟨e1, e2, e3⟩ := s.f a u e n q
    exact ⟨by rw [upd_ne (ne_of_none e hD)]; exact e1, e2, e3⟩
/-- .. becomes known -/
theorem Step.adopt (s : Step T K H0 O H H0' O' H') {D : Addr} {o : HO} (hD : H D = none) (h : H' D = some o) (h0 : H0' D = none) (hO : O' D = none) (nt : ∀ ps, o ≠ .tbl ps) : Step T K H0 O H (upd H0' D o) O' H' := by
  have sm : Same H0' (upd H0' D o) := same_new h0
  refine ⟨s.k.trans sm, ⟨fun a u e => ?_, fun a od e => ?_, s.s.t, fun a ps e => ?_⟩, fun a u e n q => ?_⟩
  · by_cases z : a = D
    · rw [z, upd_same] at e; rw [z, h]; exact e
    · rw [upd_ne z] at e; exact s.s.k a u e
  · have ne : a ≠ D := fun z => by rw [z, hO] at e; cases e
    obtain ⟨e0, ho, e1, r⟩ := s.s.o a od e
    exact ⟨by rw [upd_ne ne]; exact e0, ho, e1, rpO_mono sm _ _ r⟩
  · by_cases z : a = D
    · rw [z, upd_same] at e; exact nt ps (Option.some.inj e)
    · rw [upd_ne z] at e; exact s.s.n a ps e
  · obtain ⟨e1, e2, e3⟩ := s.f a u e n q
    exact ⟨e1, e2, fun k => by rw [upd_ne (ne_of_none e hD)]; exact e3 k⟩
/-- .. becomes owned -/
theorem Step.adoptO (s : Step T K H0 O H H0' O' H') {D : Addr} {o : HO} {od : OD} (hD : H D = none) (h : H' D = some o) (h0 : H0' D = none) (r : rpO K H0' od o) : Step T K H0 O H H0' (put O' D od) H' := by
  refine ⟨s.k, ⟨s.s.k, fun a od' e => ?_, s.s.t, s.s.n⟩, fun a u e n q => ?_⟩
  · by_cases z : a = D
    · rw [z, put_same] at e
      have e := Option.some.inj e
      subst e
      rw [z]
      exact ⟨h0, o, h, r⟩
    · rw [put_ne z] at e; exact s.s.o a od' e
  · obtain ⟨e1, e2, e3⟩ := s.f a u e n q
    exact ⟨e1, by rw [put_ne (ne_of_none e hD)]; exact e2, e3⟩
end

/-! ### the slots -/
abbrev Env' := List (Option Dat)
def envR (K : PySem.W.Frag) (H0 : Hp) (Γ : Env') (σ : L2.St) : Prop := σ.length = Γ.length ∧ ∀ (i : Nat) d, Γ[i]? = some (some d) → ∃ v, σ[i]? = some (some v) ∧ rp K H0 d v
theorem envR.mono {Γ : Env'} {σ : L2.St} (e : Same H0 H0') (h : envR K H0 Γ σ) : envR K H0' Γ σ := ⟨h.1, fun i d g => let ⟨v, e1, r⟩ := h.2 i d g; ⟨v, e1, rp_mono e _ _ r⟩⟩
theorem envR.set {Γ : Env'} {σ : L2.St} {i : Nat} {d : Dat} {v : V} (h : envR K H0 Γ σ) (r : rp K H0 d v) : envR K H0 (Γ.set i (some d)) (σ.set i (some v)) := by
  refine ⟨by rw [List.length_set, List.length_set]; exact h.1, fun j d' g => ?_⟩
  by_cases z : i = j
  · subst z
    have hi : i < Γ.length := by
      have := (List.getElem?_eq_some_iff.mp g).1
      rw [List.length_set] at this; exact this
    rw [List.getElem?_set_self hi] at g
    cases g
    exact ⟨v, List.getElem?_set_self (by rw [h.1]; exact hi), r⟩
  · rw [List.getElem?_set_ne z] at g ⊢
    exact h.2 j d' g
/-- less is known -/
def Less (Γ' Γ : Env') : Prop := Γ'.length = Γ.length ∧ ∀ (i : Nat) d, Γ'[i]? = some (some d) → Γ[i]? = some (some d)
theorem envR.less {Γ Γ' : Env'} {σ : L2.St} (h : envR K H0 Γ σ) (l : Less Γ' Γ) : envR K H0 Γ' σ := ⟨h.1.trans l.1.symm, fun i d g => h.2 i d (l.2 i d g)⟩
end DL

set_option Elab.async false
set_option linter.all false
set_option maxRecDepth 100000
/-! DL2: the judgements over data: expressions, tests, arguments, statements -/
namespace DL
open PySem PySem.Spec PyProof.Rows L2

/-- the entry -/
structure En where
  T : List (Addr × Str)
  H0 : Hp
  O : OHp
  H : Hp
abbrev En.At (z : En) (K : PySem.W.Frag) (H0 : Hp) (O : OHp) (H : Hp) : Prop := Step z.T K z.H0 z.O z.H H0 O H
section
variable {z : En} {K : PySem.W.Frag}
/-- what is wanted of a value, of a test, of arguments -/
def Kt (z : En) (K : PySem.W.Frag) (H0 : Hp) (O : OHp) (H : Hp) (Φ : Dat → OHp → Prop) (Q : VK) : Prop :=
  ∀ v d H0' O' H', Step z.T K H0 O H H0' O' H' → rp K H0' d v → Φ d O' → Q v H'
def Kb (z : En) (K : PySem.W.Frag) (H0 : Hp) (O : OHp) (H : Hp) (Φ : Bool → OHp → Prop) (Q : Bool → Hp → Prop) : Prop :=
  ∀ b H0' O' H', Step z.T K H0 O H H0' O' H' → Φ b O' → Q b H'
def Ka (z : En) (K : PySem.W.Frag) (H0 : Hp) (O : OHp) (H : Hp) (Φ : List Dat → OHp → Prop) (Q : List V → Hp → Prop) : Prop :=
  ∀ vs ds H0' O' H', Step z.T K H0 O H H0' O' H' → rps K H0' ds vs → Φ ds O' → Q vs H'
theorem Kt.step {H0 H H0' H' : Hp} {O O' : OHp} {Φ : Dat → OHp → Prop} {Q : VK} (k : Kt z K H0 O H Φ Q) (s : Step z.T K H0 O H H0' O' H') : Kt z K H0' O' H' Φ Q :=
  fun v d H0'' O'' H'' s' r φ => k v d H0'' O'' H'' (s.trans s') r φ
theorem Kb.step {H0 H H0' H' : Hp} {O O' : OHp} {Φ : Bool → OHp → Prop} {Q : Bool → Hp → Prop} (k : Kb z K H0 O H Φ Q) (s : Step z.T K H0 O H H0' O' H') : Kb z K H0' O' H' Φ Q :=
  fun b H0'' O'' H'' s' φ => k b H0'' O'' H'' (s.trans s') φ
theorem Ka.step {H0 H H0' H' : Hp} {O O' : OHp} {Φ : List Dat → OHp → Prop} {Q : List V → Hp → Prop} (k : Ka z K H0 O H Φ Q) (s : Step z.T K H0 O H H0' O' H') : Ka z K H0' O' H' Φ Q :=
  fun v d H0'' O'' H'' s' r φ => k v d H0'' O'' H'' (s.trans s') r φ

/-! ### readings over data -/
def RD (z : En) (K : PySem.W.Frag) (t : TE) (Γ : Env') (O : OHp) (Φ : Dat → OHp → Prop) : Prop :=
  ∀ σ H H0 Q, z.At K H0 O H → envR K H0 Γ σ → Kt z K H0 O H Φ Q → t σ H Q
def RT (z : En) (K : PySem.W.Frag) (t : TT) (Γ : Env') (O : OHp) (Φ : Bool → OHp → Prop) : Prop :=
  ∀ σ H H0 Q, z.At K H0 O H → envR K H0 Γ σ → Kb z K H0 O H Φ Q → t σ H Q
def RA (z : En) (K : PySem.W.Frag) (t : TA) (Γ : Env') (O : OHp) (Φ : List Dat → OHp → Prop) : Prop :=
  ∀ σ H H0 Q, z.At K H0 O H → envR K H0 Γ σ → Ka z K H0 O H Φ Q → t σ H Q
/-- operators, calls by values -/
def RR (z : En) (K : PySem.W.Frag) (r : R2) (d1 d2 : Dat) (O : OHp) (Φ : Dat → OHp → Prop) : Prop :=
  ∀ H H0 v1 v2 Q, z.At K H0 O H → rp K H0 d1 v1 → rp K H0 d2 v2 → Kt z K H0 O H Φ Q → r v1 v2 H Q
def RU (z : En) (K : PySem.W.Frag) (r : V → Hp → VK → Prop) (d : Dat) (O : OHp) (Φ : Dat → OHp → Prop) : Prop :=
  ∀ H H0 v Q, z.At K H0 O H → rp K H0 d v → Kt z K H0 O H Φ Q → r v H Q
def RC (z : En) (K : PySem.W.Frag) (r : List V → Hp → VK → Prop) (ds : List Dat) (O : OHp) (Φ : Dat → OHp → Prop) : Prop :=
  ∀ H H0 vs Q, z.At K H0 O H → rps K H0 ds vs → Kt z K H0 O H Φ Q → r vs H Q
variable {Γ : Env'} {O : OHp} {Φ : Dat → OHp → Prop} {ta tb : TE}
theorem rd_op {r : R2} (h : RD z K ta Γ O fun d1 O1 => RD z K tb Γ O1 fun d2 O2 => RR z K r d1 d2 O2 Φ) : RD z K (tOp r ta tb) Γ O Φ := fun σ H H0 Q st en k =>
  h σ H H0 _ st en fun v1 d1 H1 O1 HH s1 r1 φ1 => φ1 σ HH H1 _ (st.trans s1) (en.mono s1.k) fun v2 d2 H2 O2 HH2 s2 r2 φ2 =>
    φ2 HH2 H2 v1 v2 Q ((st.trans s1).trans s2) (rp_mono s2.k _ _ r1) r2 (k.step (s1.trans s2))
theorem rd_un {r : V → Hp → VK → Prop} (h : RD z K ta Γ O fun d1 O1 => RU z K r d1 O1 Φ) : RD z K (tUn r ta) Γ O Φ := fun σ H H0 Q st en k =>
  h σ H H0 _ st en fun v1 d1 H1 O1 HH s1 r1 φ1 => φ1 HH H1 v1 Q (st.trans s1) r1 (k.step s1)
theorem rd_cb {r : List V → Hp → VK → Prop} {t : TA} (h : RA z K t Γ O fun ds O1 => RC z K r ds O1 Φ) : RD z K (tCB r t) Γ O Φ := fun σ H H0 Q st en k =>
  h σ H H0 _ st en fun vs ds H1 O1 HH s1 r1 φ1 => φ1 HH H1 vs Q (st.trans s1) r1 (k.step s1)
theorem ra_nil {Ψ : List Dat → OHp → Prop} (h : Ψ [] O) : RA z K tNil Γ O Ψ := fun σ H H0 Q st en k => k [] [] H0 O H st.s.refl rfl h
theorem ra_cons {Ψ : List Dat → OHp → Prop} {tr : TA} (h : RD z K ta Γ O fun d O1 => RA z K tr Γ O1 fun ds O2 => Ψ (d :: ds) O2) : RA z K (tCons ta tr) Γ O Ψ := fun σ H H0 Q st en k =>
  h σ H H0 _ st en fun v1 d1 H1 O1 HH s1 r1 φ1 => φ1 σ HH H1 _ (st.trans s1) (en.mono s1.k) fun vs ds H2 O2 HH2 s2 r2 φ2 =>
    k (v1 :: vs) (d1 :: ds) H2 O2 HH2 (s1.trans s2) ⟨v1, vs, rfl, rp_mono s2.k _ _ r1, r2⟩ φ2
theorem rd_c {x : V} (h : Φ (.v x) O) : RD z K (tC x) Γ O Φ := fun σ H H0 Q st en k => k x (.v x) H0 O H st.s.refl rfl h
/-- a new list, known or owned -/
def NewL (O : OHp) (ds : List Dat) (Φ : Dat → OHp → Prop) : Prop := Φ (.lst ds) O ∨ ∀ p, O p = none → Φ (R p) (put O p (.lst ds))
theorem newL {H H0 : Hp} {ds : List Dat} {vs : List V} {p : Addr} {Q : VK} (st : StOk z.T K H0 O H) (r : rps K H0 ds vs) (hp : H p = none) (n : NewL O ds Φ) (k : Kt z K H0 O H Φ Q) : Q (.ref p) (upd H p (.lst vs)) := by
  rcases n with n | n
  · have s := st.new (o := .lst vs) hp (fun ps q => by cases q)
    exact k _ (.lst ds) _ _ _ s ⟨p, vs, rfl, upd_same, rps_mono s.k _ _ r⟩ n
  · exact k _ (Dat.v (.ref p)) _ _ _ (st.own (od := .lst ds) hp ⟨vs, rfl, r⟩) rfl (n p (st.fresh hp).2)
theorem newT {H H0 : Hp} {ds : List Dat} {vs : List V} {p : Addr} {Q : VK} (st : StOk z.T K H0 O H) (r : rps K H0 ds vs) (hp : H p = none) (n : Φ (.tup ds) O) (k : Kt z K H0 O H Φ Q) : Q (.ref p) (upd H p (.tup vs)) := by
  have s := st.new (o := .tup vs) hp (fun ps q => by cases q)
  exact k _ (.tup ds) _ _ _ s ⟨p, vs, rfl, upd_same, rps_mono s.k _ _ r⟩ n
theorem rd_tup {t : TA} (h : RA z K t Γ O fun ds O1 => ds.length ≤ 100000 ∧ Φ (.tup ds) O1) : RD z K (tTup t) Γ O Φ := fun σ H H0 Q st en k =>
  h σ H H0 _ st en fun vs ds H1 O1 HH s1 r1 φ1 => ⟨Nat.le_trans (by rw [rps_len r1]; exact φ1.1) (by decide), fun p hp => newT s1.s r1 hp φ1.2 (k.step s1)⟩
theorem rd_lst {t : TA} (h : RA z K t Γ O fun ds O1 => ds.length ≤ 100000 ∧ NewL O1 ds Φ) : RD z K (tLst t) Γ O Φ := fun σ H H0 Q st en k =>
  h σ H H0 _ st en fun vs ds H1 O1 HH s1 r1 φ1 => ⟨Nat.le_trans (by rw [rps_len r1]; exact φ1.1) (by decide), fun p hp => newL s1.s r1 hp φ1.2 (k.step s1)⟩
theorem rd_imp {t : TE} {Φ' : Dat → OHp → Prop} (h : RD z K t Γ O Φ') (i : ∀ d O, Φ' d O → Φ d O) : RD z K t Γ O Φ := fun σ H H0 Q st en k => h σ H H0 Q st en fun v d H1 O1 HH s r φ => k v d H1 O1 HH s r (i _ _ φ)
theorem RD.freeze {t : TE} (h : RD z K t Γ O fun d O1 => ∃ p ds, d = R p ∧ O1 p = some (.lst ds) ∧ Φ (.lst ds) (del O1 p)) : RD z K t Γ O Φ := fun σ H H0 Q st en k =>
  h σ H H0 _ st en fun v d H1 O1 HH s1 r1 ⟨p, ds, e, ho, φ⟩ => by
    subst e
    have e : v = .ref p := r1
    subst e
    obtain ⟨H2, s2, r2⟩ := s1.s.freeze ho
    exact k _ _ H2 _ HH (s1.trans s2) r2 φ
/-- where a list is read: known, or owned -/
def Sees (O : OHp) (d : Dat) (ds : List Dat) : Prop := d = .lst ds ∨ ∃ p, d = R p ∧ O p = some (.lst ds)
theorem Sees.at {H H0 : Hp} {d : Dat} {ds : List Dat} {v : V} (s : Sees O d ds) (st : StOk z.T K H0 O H) (r : rp K H0 d v) : ∃ a vs, v = .ref a ∧ H a = some (.lst vs) ∧ rps K H0 ds vs := by
  rcases s with e | ⟨p, e, ho⟩
  · subst e
    obtain ⟨a, vs, e1, h1, h2⟩ := r
    exact ⟨a, vs, e1, st.k _ _ h1, h2⟩
  · subst e
    have e : v = .ref p := r
    obtain ⟨_, _, e1, vs, e2, h⟩ := st.o p _ ho
    subst e2
    exact ⟨p, vs, e, e1, h⟩
theorem tup_at {H H0 : Hp} {ds : List Dat} {v : V} (st : StOk z.T K H0 O H) (r : rp K H0 (.tup ds) v) : ∃ a vs, v = .ref a ∧ H a = some (.tup vs) ∧ rps K H0 ds vs := by
  obtain ⟨a, vs, e1, h1, h2⟩ := r
  exact ⟨a, vs, e1, st.k _ _ h1, h2⟩

/-! ### tests -/
variable {Ψ : Bool → OHp → Prop}
theorem rt_test (h : RD z K ta Γ O fun d O1 => ∃ b, d = B b ∧ Ψ b O1) : RT z K (tTest ta) Γ O Ψ := fun σ H H0 Q st en k =>
  h σ H H0 _ st en fun v d H1 O1 HH s1 r1 ⟨b, e, φ⟩ => by
    subst e
    exact ⟨b, r1, k b H1 O1 HH s1 φ⟩
theorem rt_B (h : RD z K ta Γ O fun d O1 => ∃ b, d = B b ∧ Ψ b O1) : RT z K (tB ta) Γ O Ψ := fun σ H H0 Q st en k =>
  h σ H H0 _ st en fun v d H1 O1 HH s1 r1 ⟨b, e, φ⟩ => by
    subst e
    exact ⟨b, r1, k b H1 O1 HH s1 φ⟩
theorem rt_not {t : TT} (h : RT z K t Γ O fun b O1 => Ψ (!b) O1) : RT z K (tNot t) Γ O Ψ := fun σ H H0 Q st en k =>
  h σ H H0 _ st en fun b H1 O1 HH s1 φ => k _ H1 O1 HH s1 φ
theorem rt_and {t u : TT} (h : RT z K t Γ O fun b O1 => (b = false → Ψ false O1) ∧ (b = true → RT z K u Γ O1 Ψ)) : RT z K (tAnd t u) Γ O Ψ := fun σ H H0 Q st en k =>
  h σ H H0 _ st en fun b H1 O1 HH s1 φ => by
    cases b with
    | false =>
      show Q false HH
      exact k _ H1 O1 HH s1 (φ.1 rfl)
    | true =>
      show u σ HH Q
      exact φ.2 rfl σ HH H1 Q (st.trans s1) (en.mono s1.k) (k.step s1)
theorem rt_or {t u : TT} (h : RT z K t Γ O fun b O1 => (b = true → Ψ true O1) ∧ (b = false → RT z K u Γ O1 Ψ)) : RT z K (tOr t u) Γ O Ψ := fun σ H H0 Q st en k =>
  h σ H H0 _ st en fun b H1 O1 HH s1 φ => by
    cases b with
    | true =>
      show Q true HH
      exact k _ H1 O1 HH s1 (φ.1 rfl)
    | false =>
      show u σ HH Q
      exact φ.2 rfl σ HH H1 Q (st.trans s1) (en.mono s1.k) (k.step s1)
theorem rd_andV (h : RD z K ta Γ O fun d O1 => ∃ b, d = B b ∧ (b = false → Φ (B false) O1) ∧ (b = true → RD z K tb Γ O1 Φ)) : RD z K (tAndV ta tb) Γ O Φ := fun σ H H0 Q st en k =>
  h σ H H0 _ st en fun v d H1 O1 HH s1 r1 ⟨b, e, φ⟩ => by
    subst e
    refine ⟨b, r1, ?_⟩
    cases b with
    | false =>
      show Q (.bl false) HH
      exact k _ (B false) H1 O1 HH s1 rfl (φ.1 rfl)
    | true =>
      show tb σ HH Q
      exact φ.2 rfl σ HH H1 Q (st.trans s1) (en.mono s1.k) (k.step s1)
theorem rd_orV (h : RD z K ta Γ O fun d O1 => ∃ b, d = B b ∧ (b = true → Φ (B true) O1) ∧ (b = false → RD z K tb Γ O1 Φ)) : RD z K (tOrV ta tb) Γ O Φ := fun σ H H0 Q st en k =>
  h σ H H0 _ st en fun v d H1 O1 HH s1 r1 ⟨b, e, φ⟩ => by
    subst e
    refine ⟨b, r1, ?_⟩
    cases b with
    | true =>
      show Q (.bl true) HH
      exact k _ (B true) H1 O1 HH s1 rfl (φ.1 rfl)
    | false =>
      show tb σ HH Q
      exact φ.2 rfl σ HH H1 Q (st.trans s1) (en.mono s1.k) (k.step s1)
theorem rd_notV (h : RD z K ta Γ O fun d O1 => ∃ b, d = B b ∧ Φ (B (!b)) O1) : RD z K (tNotV ta) Γ O Φ := fun σ H H0 Q st en k =>
  h σ H H0 _ st en fun v d H1 O1 HH s1 r1 ⟨b, e, φ⟩ => by
    subst e
    exact ⟨b, r1, k _ (B (!b)) H1 O1 HH s1 rfl φ⟩
theorem rd_if {t : TT} (h : RT z K t Γ O fun b O1 => (b = true → RD z K ta Γ O1 Φ) ∧ (b = false → RD z K tb Γ O1 Φ)) : RD z K (tIf t ta tb) Γ O Φ := fun σ H H0 Q st en k =>
  h σ H H0 _ st en fun b H1 O1 HH s1 φ => by
    cases b with
    | true =>
      show ta σ HH Q
      exact φ.1 rfl σ HH H1 Q (st.trans s1) (en.mono s1.k) (k.step s1)
    | false =>
      show tb σ HH Q
      exact φ.2 rfl σ HH H1 Q (st.trans s1) (en.mono s1.k) (k.step s1)
end

/-! ### statements' ends -/
structure EnD where
  nx : Env' → OHp → Prop := fun _ _ => False
  rt : Dat → OHp → Prop := fun _ _ => False
  bk : Env' → OHp → Prop := fun _ _ => False
  ct : Env' → OHp → Prop := fun _ _ => False
structure EnK (z : En) (K : PySem.W.Frag) (H0 : Hp) (O : OHp) (H : Hp) (E : EnD) (D : Ends) : Prop where
  nx : ∀ σ' Γ' H0' O' H', Step z.T K H0 O H H0' O' H' → envR K H0' Γ' σ' → E.nx Γ' O' → D.nx σ' H'
  rt : ∀ v d H0' O' H', Step z.T K H0 O H H0' O' H' → rp K H0' d v → E.rt d O' → D.rt v H'
  bk : ∀ σ' Γ' H0' O' H', Step z.T K H0 O H H0' O' H' → envR K H0' Γ' σ' → E.bk Γ' O' → D.bk σ' H'
  ct : ∀ σ' Γ' H0' O' H', Step z.T K H0 O H H0' O' H' → envR K H0' Γ' σ' → E.ct Γ' O' → D.ct σ' H'
def RS (z : En) (K : PySem.W.Frag) (t : TS) (Γ : Env') (O : OHp) (E : EnD) : Prop :=
  ∀ σ H H0 D, z.At K H0 O H → envR K H0 Γ σ → EnK z K H0 O H E D → t D σ H
section
variable {z : En} {K : PySem.W.Frag} {Γ Γ' : Env'} {O O' : OHp} {E E' : EnD} {ta tb : TE} {t u : TS}
theorem EnK.step {H0 H H0' H' : Hp} {D : Ends} (k : EnK z K H0 O H E D) (s : Step z.T K H0 O H H0' O' H') : EnK z K H0' O' H' E D :=
  ⟨fun σ' Γ' _ _ _ s' r φ => k.nx _ _ _ _ _ (s.trans s') r φ, fun _ _ _ _ _ s' r φ => k.rt _ _ _ _ _ (s.trans s') r φ,
   fun σ' Γ' _ _ _ s' r φ => k.bk _ _ _ _ _ (s.trans s') r φ, fun σ' Γ' _ _ _ s' r φ => k.ct _ _ _ _ _ (s.trans s') r φ⟩
theorem rs_next (h : E.nx Γ O) : RS z K tNext Γ O E := fun σ H H0 D st en k => k.nx _ _ _ _ _ st.s.refl en h
theorem rs_break (h : E.bk Γ O) : RS z K tBreak Γ O E := fun σ H H0 D st en k => k.bk _ _ _ _ _ st.s.refl en h
theorem rs_cont (h : E.ct Γ O) : RS z K tCont Γ O E := fun σ H H0 D st en k => k.ct _ _ _ _ _ st.s.refl en h
theorem rs_seq (h : RS z K t Γ O { E with nx := fun Γ' O' => RS z K u Γ' O' E }) : RS z K (tSeq t u) Γ O E := fun σ H H0 D st en k =>
  h σ H H0 { D with nx := u D } st en ⟨fun σ' Γ' H0' O' H' s r φ => φ σ' H' H0' D (st.trans s) r (k.step s), k.rt, k.bk, k.ct⟩
theorem rs_drop (h : RD z K ta Γ O fun _ O1 => E.nx Γ O1) : RS z K (tDrop ta) Γ O E := fun σ H H0 D st en k =>
  h σ H H0 _ st en fun v d H1 O1 HH s1 r1 φ => k.nx _ _ _ _ _ s1 (en.mono s1.k) φ
theorem rs_ret (h : RD z K ta Γ O E.rt) : RS z K (tRet ta) Γ O E := fun σ H H0 D st en k =>
  h σ H H0 _ st en fun v d H1 O1 HH s1 r1 φ => k.rt _ _ _ _ _ s1 r1 φ
theorem rs_retN (h : E.rt N O) : RS z K tRetN Γ O E := fun σ H H0 D st en k => k.rt .non N _ _ _ st.s.refl rfl h
theorem rs_if {c : TT} (h : RT z K c Γ O fun b O1 => (b = true → RS z K t Γ O1 E) ∧ (b = false → RS z K u Γ O1 E)) : RS z K (tIfS c t u) Γ O E := fun σ H H0 D st en k =>
  h σ H H0 _ st en fun b H1 O1 HH s1 φ => by
    cases b with
    | true =>
      show t D σ HH
      exact φ.1 rfl σ HH H1 D (st.trans s1) (en.mono s1.k) (k.step s1)
    | false =>
      show u D σ HH
      exact φ.2 rfl σ HH H1 D (st.trans s1) (en.mono s1.k) (k.step s1)
/-- targets -/
def RG (z : En) (K : PySem.W.Frag) (g : TG) (d : Dat) (Γ : Env') (O : OHp) (N : Env' → OHp → Prop) : Prop :=
  ∀ σ H H0 v Q, z.At K H0 O H → envR K H0 Γ σ → rp K H0 d v → (∀ σ' Γ' H0' O' H', Step z.T K H0 O H H0' O' H' → envR K H0' Γ' σ' → N Γ' O' → Q σ' H') → g v σ H Q
theorem rg_name {i : Nat} {d : Dat} {N : Env' → OHp → Prop} (h : N (Γ.set i (some d)) O) : RG z K (gName i) d Γ O N := fun σ H H0 v Q st en r k => k _ _ _ _ _ st.s.refl (en.set r) h
theorem rs_asg {g : TG} (h : RD z K ta Γ O fun d O1 => RG z K g d Γ O1 E.nx) : RS z K (tAsg ta g) Γ O E := fun σ H H0 D st en k =>
  h σ H H0 _ st en fun v d H1 O1 HH s1 r1 φ => φ σ HH H1 v _ (st.trans s1) (en.mono s1.k) r1 fun σ' Γ' H2 O2 HH2 s2 e2 n => k.nx _ _ _ _ _ (s1.trans s2) e2 n
def RGs (z : En) (K : PySem.W.Frag) (g : TGs) (ds : List Dat) (Γ : Env') (O : OHp) (N : Env' → OHp → Prop) : Prop :=
  ∀ σ H H0 vs Q, z.At K H0 O H → envR K H0 Γ σ → rps K H0 ds vs → (∀ σ' Γ' H0' O' H', Step z.T K H0 O H H0' O' H' → envR K H0' Γ' σ' → N Γ' O' → Q σ' H') → g vs σ H Q
theorem rgs_nil {N : Env' → OHp → Prop} (h : N Γ O) : RGs z K gNil [] Γ O N := fun σ H H0 vs Q st en r k => ⟨r, k _ _ _ _ _ st.s.refl en h⟩
theorem rgs_cons {g : TG} {gs : TGs} {d : Dat} {ds : List Dat} {N : Env' → OHp → Prop} (h : RG z K g d Γ O fun Γ1 O1 => RGs z K gs ds Γ1 O1 N) : RGs z K (gCons g gs) (d :: ds) Γ O N := fun σ H H0 vs Q st en r k => by
  obtain ⟨x, q, e, r1, r2⟩ := r
  refine ⟨x, q, e, ?_⟩
  exact h σ H H0 x _ st en r1 fun σ' Γ' H1 O1 HH s1 e1 φ => φ σ' HH H1 q Q (st.trans s1) e1 (rps_mono s1.k _ _ r2) fun σ2 Γ2 H2 O2 HH2 s2 e2 n => k _ _ _ _ _ (s1.trans s2) e2 n
theorem rg_tup {gs : TGs} {n : Nat} {ds : List Dat} {N : Env' → OHp → Prop} (hl : ds.length = n) (h : RGs z K gs ds Γ O N) : RG z K (gTup K n gs) (.tup ds) Γ O N := fun σ H H0 v Q st en r k => by
  obtain ⟨a, vs, e, h1, h2⟩ := tup_at st.s r
  exact ⟨a, vs, e, .of h1, by rw [rps_len h2, hl], h σ H H0 vs Q st en h2 k⟩
/-- a, b = x, y -/
theorem rs_par {i j : Nat} {ta : TA} (h : RA z K ta Γ O fun ds O1 => ∃ d e, ds = [d, e] ∧ E.nx ((Γ.set i (some d)).set j (some e)) O1) : RS z K (tPar i j ta) Γ O E := fun σ H H0 D st en k =>
  h σ H H0 _ st en fun vs ds H1 O1 HH s1 r1 ⟨d, e, eq, φ⟩ => by
    subst eq
    obtain ⟨x, q, e1, r2, y, q2, e2, r3, e3⟩ := r1
    have e3 : q2 = [] := e3
    subst e1 e2 e3
    exact ⟨x, y, rfl, k.nx _ _ _ _ _ s1 (((en.mono s1.k).set r2).set r3) φ⟩
theorem RS.imp (h : RS z K t Γ O E') (n : ∀ Γ O, E'.nx Γ O → E.nx Γ O) (r : ∀ d O, E'.rt d O → E.rt d O) (b : ∀ Γ O, E'.bk Γ O → E.bk Γ O) (c : ∀ Γ O, E'.ct Γ O → E.ct Γ O) : RS z K t Γ O E := fun σ H H0 D st en k =>
  h σ H H0 D st en ⟨fun _ _ _ _ _ s e φ => k.nx _ _ _ _ _ s e (n _ _ φ), fun _ _ _ _ _ s e φ => k.rt _ _ _ _ _ s e (r _ _ φ), fun _ _ _ _ _ s e φ => k.bk _ _ _ _ _ s e (b _ _ φ), fun _ _ _ _ _ s e φ => k.ct _ _ _ _ _ s e (c _ _ φ)⟩
/-- less is known, less is owned -/
theorem RS.less (h : RS z K t Γ' O' E) (l : Less Γ' Γ) (s : Sub O' O) : RS z K t Γ O E := fun σ H H0 D st en k => by
  have q := st.s.forget s
  exact h σ H H0 D (st.trans q) (en.less l) (k.step q)
theorem RS.forget (h : RS z K t Γ O' E) (s : Sub O' O) : RS z K t Γ O E := h.less ⟨rfl, fun _ _ g => g⟩ s
/-- an owned list in a slot becomes known -/
theorem RS.freeze {i : Nat} {p : Addr} {ds : List Dat} (hi : Γ[i]? = some (some (R p))) (ho : O p = some (.lst ds)) (h : RS z K t (Γ.set i (some (.lst ds))) (del O p) E) : RS z K t Γ O E := fun σ H H0 D st en k => by
  obtain ⟨H2, s2, r2⟩ := st.s.freeze ho
  obtain ⟨v, e, r⟩ := en.2 i _ hi
  have r : v = .ref p := r
  subst r
  have en2 := (en.mono s2.k).set (i := i) r2
  have es : σ.set i (some (.ref p)) = σ := by
    apply List.ext_getElem?
    intro j
    by_cases hj : i = j
    · subst hj
      rw [List.getElem?_set_self (List.getElem?_eq_some_iff.mp e).1, e]
    · rw [List.getElem?_set_ne hj]
  rw [es] at en2
  exact h σ H H2 D (st.trans s2) en2 (k.step s2)
theorem rs_pre (h : ∀ σ H H0 D, z.At K H0 O H → envR K H0 Γ σ → EnK z K H0 O H E D → (z.At K H0 O H → envR K H0 Γ σ → EnK z K H0 O H E D → t D σ H) ) (q : True) : RS z K t Γ O E := fun σ H H0 D a b c => h σ H H0 D a b c a b c

/-! ### while -/
theorem rs_while {c : TT} {tb : TS} (W : Nat → Env' → OHp → Prop) (m0 : Nat) (h0 : W m0 Γ O)
    (hs : ∀ m Γ1 O1, W m Γ1 O1 → RT z K c Γ1 O1 fun b O2 => (b = true → RS z K tb Γ1 O2 { E with nx := fun Γ3 O3 => ∃ m', m' < m ∧ W m' Γ3 O3, ct := fun Γ3 O3 => ∃ m', m' < m ∧ W m' Γ3 O3, bk := E.nx }) ∧ (b = false → E.nx Γ1 O2)) : RS z K (tWhile c tb) Γ O E := fun σ H H0 D st en k => by
  refine ⟨fun m σ' H' => ∃ Γ1 O1 H1, Step z.T K H0 O H H1 O1 H' ∧ envR K H1 Γ1 σ' ∧ W m Γ1 O1, ⟨m0, Γ, O, H0, st.s.refl, en, h0⟩, fun m σ' H' hw => ?_⟩
  obtain ⟨Γ1, O1, H1, s1, e1, w1⟩ := hw
  refine hs m Γ1 O1 w1 σ' H' H1 _ (st.trans s1) e1 fun b H2 O2 HH s2 φ => ?_
  cases b with
  | true =>
    refine ⟨fun σ3 H3 => ∃ m', m' < m ∧ ∃ Γ3 O3 H4, Step z.T K H0 O H H4 O3 H3 ∧ envR K H4 Γ3 σ3 ∧ W m' Γ3 O3, fun σ3 H3 n => ?_, ?_⟩
    · obtain ⟨m', hm, q⟩ := n
      exact ⟨m', hm, q⟩
    · refine φ.1 rfl σ' HH H2 _ ((st.trans s1).trans s2) (e1.mono s2.k) ⟨fun σ3 Γ3 H3 O3 H3' s3 e3 n => ?_, fun v d H3 O3 H3' s3 r3 n => ?_, fun σ3 Γ3 H3 O3 H3' s3 e3 n => ?_, fun σ3 Γ3 H3 O3 H3' s3 e3 n => ?_⟩
      · obtain ⟨m', hm, w⟩ := n
        exact ⟨m', hm, Γ3, O3, H3, (s1.trans s2).trans s3, e3, w⟩
      · exact k.rt _ _ _ _ _ ((s1.trans s2).trans s3) r3 n
      · exact k.nx _ _ _ _ _ ((s1.trans s2).trans s3) e3 n
      · obtain ⟨m', hm, w⟩ := n
        exact ⟨m', hm, Γ3, O3, H3, (s1.trans s2).trans s3, e3, w⟩
  | false =>
    exact k.nx _ _ _ _ _ (s1.trans s2) (e1.mono s2.k) (φ.2 rfl)
end

/-! ### what is walked -/
/-- J walks n items; at turn i an item of Y i, where C holds of what is owned -/
structure ItOk (z : En) (K : PySem.W.Frag) (Hb : Hp) (J : It) (n : Nat) (Y : Nat → Dat → Prop) (C : OHp → Prop) : Prop where
  stop : ∀ i H0 O H, z.At K H0 O H → Same Hb H0 → C O → n ≤ i → J.stop i H
  go : ∀ i H0 O H, z.At K H0 O H → Same Hb H0 → C O → i < n → J.go i H
  yld : ∀ i H0 O H x H', z.At K H0 O H → Same Hb H0 → C O → i < n → J.yld i H x H' → ∃ H0' d, Step z.T K H0 O H H0' O H' ∧ rp K H0' d x ∧ Y i d
def RI (z : En) (K : PySem.W.Frag) (wi : TI) (Γ : Env') (O : OHp) (Φ : Nat → (Nat → Dat → Prop) → (OHp → Prop) → OHp → Prop) : Prop :=
  ∀ σ H H0 Q, z.At K H0 O H → envR K H0 Γ σ → (∀ J n Y C H0' O' H', Step z.T K H0 O H H0' O' H' → ItOk z K H0' J n Y C → Φ n Y C O' → Q J H') → wi σ H Q
section
variable {z : En} {K : PySem.W.Frag} {Γ : Env'} {O : OHp} {E : EnD} {Φ : Dat → OHp → Prop}
theorem rs_for {wi : TI} {g : TG} {tb : TS} (h : RI z K wi Γ O fun n Y C O1 => ∃ W : Nat → Env' → OHp → Prop, W 0 Γ O1 ∧ (∀ i Γ' O', W i Γ' O' → C O') ∧
      (∀ i d Γ' O', i < n → W i Γ' O' → Y i d → RG z K g d Γ' O' fun Γ2 O2 => RS z K tb Γ2 O2 { E with nx := W (i + 1), ct := W (i + 1), bk := E.nx }) ∧ (∀ Γ' O', W n Γ' O' → E.nx Γ' O')) : RS z K (tFor wi g tb) Γ O E := fun σ H H0 D st en k => by
  refine h σ H H0 _ st en fun J n Y C H1 O1 HH s1 it ⟨W, w0, wc, turn, fin⟩ => ?_
  refine ⟨fun i m σ' H' => m = n - i ∧ i ≤ n ∧ ∃ Γ' O' H0', Step z.T K H1 O1 HH H0' O' H' ∧ envR K H0' Γ' σ' ∧ W i Γ' O', ⟨n, by simp, Nat.zero_le _, Γ, O1, H1, s1.s.refl, en.mono s1.k, w0⟩, ?_⟩
  rintro i m σ' H' ⟨rfl, hi, Γ', O', H0', s2, e2, w⟩
  have st2 := (st.trans s1).trans s2
  by_cases hlt : i < n
  · refine .inr ⟨it.go i _ _ _ st2 s2.k (wc _ _ _ w) hlt, fun σ3 H3 => ∃ Γ3 O3 H03, Step z.T K H1 O1 HH H03 O3 H3 ∧ envR K H03 Γ3 σ3 ∧ W (i + 1) Γ3 O3, fun σ3 H3 n3 => ⟨n - (i + 1), by omega, rfl, hlt, n3⟩, fun x H3 hy => ?_⟩
    obtain ⟨H03, d, s3, r3, y3⟩ := it.yld i _ _ _ _ _ st2 s2.k (wc _ _ _ w) hlt hy
    refine turn i d Γ' O' hlt w y3 σ' H3 H03 x _ (st2.trans s3) (e2.mono s3.k) r3 fun σ4 Γ4 H4 O4 HH4 s4 e4 q => ?_
    have s14 := (s2.trans s3).trans s4
    refine q σ4 HH4 H4 _ (((st.trans s1).trans s14)) e4 ⟨fun σ5 Γ5 H5 O5 HH5 s5 e5 n5 => ⟨Γ5, O5, H5, s14.trans s5, e5, n5⟩, fun v d H5 O5 HH5 s5 r5 n5 => k.rt _ _ _ _ _ ((s1.trans s14).trans s5) r5 n5, fun σ5 Γ5 H5 O5 HH5 s5 e5 n5 => k.nx _ _ _ _ _ ((s1.trans s14).trans s5) e5 n5, fun σ5 Γ5 H5 O5 HH5 s5 e5 n5 => ⟨Γ5, O5, H5, s14.trans s5, e5, n5⟩⟩
  · have e : i = n := by omega
    subst e
    exact .inl ⟨it.stop i _ _ _ st2 s2.k (wc _ _ _ w) (Nat.le_refl _), k.nx _ _ _ _ _ (s1.trans s2) e2 (fin _ _ w)⟩
/-- the names of a comprehension forgotten -/
def wipeE (Γ : Env') : List Nat → Env'
  | [] => Γ
  | v :: vs => (wipeE Γ vs).set v none
theorem wipeE_length (Γ : Env') : ∀ vs : List Nat, (wipeE Γ vs).length = Γ.length
  | [] => rfl
  | v :: vs => by unfold wipeE; rw [List.length_set, wipeE_length Γ vs]
theorem wipe_env {H0 : Hp} {σ : L2.St} (en : envR K H0 Γ σ) : ∀ vs : List Nat, envR K H0 (wipeE Γ vs) (wipe σ vs)
  | [] => en
  | v :: vs => by
    have ih := wipe_env en vs
    refine ⟨by unfold wipe wipeE; rw [List.length_set, List.length_set]; exact ih.1, fun i d g => ?_⟩
    unfold wipeE at g
    unfold wipe
    by_cases hz : v = i
    · subst hz
      by_cases hl : v < (wipeE Γ vs).length
      · rw [List.getElem?_set_self hl] at g; cases g
      · rw [List.getElem?_eq_none (by simpa using hl)] at g; cases g
    · rw [List.getElem?_set_ne hz] at g ⊢
      exact ih.2 i d g
/-- targets that store into the comprehension's own names alone -/
def GWipe (g : TG) (vs : List Nat) : Prop := ∀ x σ H Q, g x σ H Q → g x σ H fun σ2 H2 => wipe σ2 vs = wipe σ vs ∧ Q σ2 H2
theorem set_none_set {σ : L2.St} {i : Nat} {x : V} : (σ.set i (some x)).set i none = σ.set i none := List.set_set ..
theorem wipe_set (σ : L2.St) (i : Nat) (x : V) : ∀ vs : List Nat, i ∈ vs → wipe (σ.set i (some x)) vs = wipe σ vs
  | [], h => by simp at h
  | v :: vs, h => by
    unfold wipe
    by_cases hi : i ∈ vs
    · rw [wipe_set σ i x vs hi]
    · have e : i = v := by
        rcases List.mem_cons.mp h with z | z
        · exact z
        · exact absurd z hi
      subst e
      have q : ∀ ws : List Nat, i ∉ ws → wipe (σ.set i (some x)) ws = (wipe σ ws).set i (some x) := by
        intro ws
        induction ws with
        | nil => intro _; rfl
        | cons w ws ih =>
          intro hw
          unfold wipe
          rw [ih fun z => hw (List.mem_cons_of_mem _ z), List.set_comm _ _ fun z => hw (by rw [z]; exact List.mem_cons_self)]
      rw [q vs hi, set_none_set]
theorem gw_name {i : Nat} {vs : List Nat} (h : i ∈ vs) : GWipe (gName i) vs := fun x σ H Q q => ⟨wipe_set σ i x vs h, q⟩
def GsWipe (g : TGs) (vs : List Nat) : Prop := ∀ xs σ H Q, g xs σ H Q → g xs σ H fun σ2 H2 => wipe σ2 vs = wipe σ vs ∧ Q σ2 H2
theorem gw_nil {vs : List Nat} : GsWipe gNil vs := fun xs σ H Q q => ⟨q.1, rfl, q.2⟩
theorem gw_cons {i : Nat} {gs : TGs} {vs : List Nat} (h : i ∈ vs) (h2 : GsWipe gs vs) (mono : ∀ xs σ H (Q Q' : L2.St → Hp → Prop), (∀ σ H, Q σ H → Q' σ H) → gs xs σ H Q → gs xs σ H Q') : GsWipe (gCons (gName i) gs) vs := fun xs σ H Q q => by
  obtain ⟨v, r, e, q⟩ := q
  refine ⟨v, r, e, ?_⟩
  have q : gs r (σ.set i (some v)) H Q := q
  show gs r (σ.set i (some v)) H _
  refine mono _ _ _ _ _ (fun σ2 H2 ⟨a, b⟩ => ⟨a.trans (wipe_set σ i v vs h), b⟩) (h2 r _ H Q q)
theorem mono_nil : ∀ xs σ H (Q Q' : L2.St → Hp → Prop), (∀ σ H, Q σ H → Q' σ H) → gNil xs σ H Q → gNil xs σ H Q' := fun xs σ H Q Q' h q => ⟨q.1, h _ _ q.2⟩
theorem mono_cons {i : Nat} {gs : TGs} (m : ∀ xs σ H (Q Q' : L2.St → Hp → Prop), (∀ σ H, Q σ H → Q' σ H) → gs xs σ H Q → gs xs σ H Q') : ∀ xs σ H (Q Q' : L2.St → Hp → Prop), (∀ σ H, Q σ H → Q' σ H) → gCons (gName i) gs xs σ H Q → gCons (gName i) gs xs σ H Q' :=
  fun xs σ H Q Q' h ⟨v, r, e, q⟩ => ⟨v, r, e, m _ _ _ _ _ h q⟩
theorem gw_tup {i j : Nat} {vs : List Nat} {n : Nat} (hi : i ∈ vs) (hj : j ∈ vs) : GWipe (gTup K n (gCons (gName i) (gCons (gName j) gNil))) vs := fun x σ H Q q => by
  obtain ⟨a, xs, e, h1, h2, q⟩ := q
  exact ⟨a, xs, e, h1, h2, gw_cons hi (gw_cons hj gw_nil mono_nil) (mono_cons mono_nil) xs σ H Q q⟩
theorem wipe_get (σ : L2.St) (i : Nat) : ∀ vs : List Nat, (wipe σ vs)[i]? = if i ∈ vs then σ[i]?.map (fun _ => none) else σ[i]?
  | [] => by simp [wipe]
  | v :: vs => by
    unfold wipe
    rw [List.getElem?_set, wipe_get σ i vs, wipe_length]
    by_cases h : v = i
    · subst h
      rw [if_pos rfl, if_pos List.mem_cons_self]
      by_cases hl : v < σ.length
      · rw [if_pos hl, List.getElem?_eq_getElem hl]; rfl
      · rw [if_neg hl, List.getElem?_eq_none (by omega)]; rfl
    · rw [if_neg h]
      by_cases hm : i ∈ vs
      · rw [if_pos hm, if_pos (List.mem_cons_of_mem _ hm)]
      · rw [if_neg hm, if_neg (fun z => (List.mem_cons.mp z).elim (fun e => h e.symm) hm)]
theorem wipe_idem (σ : L2.St) (vs : List Nat) : wipe (wipe σ vs) vs = wipe σ vs := by
  apply List.ext_getElem?
  intro i
  rw [wipe_get, wipe_get]
  by_cases h : i ∈ vs
  · rw [if_pos h, if_pos h, Option.map_map]; rfl
  · rw [if_neg h, if_neg h]
/-- [elt for target in iter if test] -/
theorem rd_lc {wi : TI} {g : TG} {tt : TT} {te : TE} {vs : List Nat} (gw : GWipe g vs)
    (h : RI z K wi Γ O fun n Y C O1 => n ≤ 100000 ∧ ∃ W : Nat → List Dat → OHp → Prop, W 0 [] O1 ∧ (∀ i acc O', W i acc O' → C O') ∧
      (∀ i d acc O', i < n → W i acc O' → Y i d → RG z K g d (wipeE Γ vs) O' fun Γ2 O2 => RT z K tt Γ2 O2 fun b O3 => (b = true → RD z K te Γ2 O3 fun y O4 => W (i + 1) (acc ++ [y]) O4) ∧ (b = false → W (i + 1) acc O3)) ∧
      (∀ acc O', W n acc O' → NewL O' acc Φ)) : RD z K (tLc wi g tt te vs) Γ O Φ := fun σ H H0 Q st en k => by
  refine h σ H H0 _ st en fun J n Y C H1 O1 HH s1 it ⟨hn, W, w0, wc, turn, fin⟩ D hD => ?_
  -- the list being made at D, neither known nor owned
  refine ⟨fun i m H' => m = n - i ∧ i ≤ n ∧ ∃ acc vacc O' H0', Step z.T K H1 O1 HH H0' O' H' ∧ H' D = some (.lst vacc) ∧ H0' D = none ∧ O' D = none ∧ rps K H0' acc vacc ∧ acc.length ≤ i ∧ W i acc O', ⟨n, by simp, Nat.zero_le _, [], [], O1, H1, s1.s.refl.asideNew hD hD, upd_same, (s1.s.fresh hD).1, (s1.s.fresh hD).2, rfl, Nat.le_refl _, w0⟩, ?_⟩
  rintro i m H' ⟨rfl, hi, acc, vacc, O', H0', s2, hDl, h0, hO, racc, hlen, w⟩
  have st2 := (st.trans s1).trans s2
  by_cases hlt : i < n
  · refine .inr ⟨it.go i _ _ _ st2 s2.k (wc _ _ _ w) hlt, fun H3 => ∃ acc vacc O3 H03, Step z.T K H1 O1 HH H03 O3 H3 ∧ H3 D = some (.lst vacc) ∧ H03 D = none ∧ O3 D = none ∧ rps K H03 acc vacc ∧ acc.length ≤ i + 1 ∧ W (i + 1) acc O3, fun H3 n3 => ⟨n - (i + 1), by omega, rfl, hlt, n3⟩, fun x H3 hy => ?_⟩
    obtain ⟨H03, d, s3, r3, y3⟩ := it.yld i _ _ _ _ _ st2 s2.k (wc _ _ _ w) hlt hy
    have fD : ∀ {H0a Ha H0b Hb : Hp} {Oa Ob : OHp}, Step z.T K H0a Oa Ha H0b Ob Hb → Ha D = some (.lst vacc) → H0a D = none → Oa D = none → Hb D = some (.lst vacc) ∧ H0b D = none ∧ Ob D = none := fun s a b c =>
      let ⟨e1, e2, e3⟩ := s.f D _ a c (fun ps q => by cases q)
      ⟨e1, e3 b, e2⟩
    obtain ⟨d3, k3, o3⟩ := fD s3 hDl h0 hO
    have gw' := gw x (wipe σ vs) H3
    rw [wipe_idem] at gw'
    refine gw' _ ?_
    refine turn i d acc O' hlt w y3 (wipe σ vs) H3 H03 x _ (st2.trans s3) (wipe_env (en.mono ((s1.k.trans s2.k).trans s3.k)) vs) r3 fun σ4 Γ4 H4 O4 HH4 s4 e4 q => ?_
    obtain ⟨d4, k4, o4⟩ := fD s4 d3 k3 o3
    refine q σ4 HH4 H4 _ ((st2.trans s3).trans s4) e4 fun b H5 O5 HH5 s5 φ => ?_
    obtain ⟨d5, k5, o5⟩ := fD s5 d4 k4 o4
    have s15 := ((s2.trans s3).trans s4).trans s5
    have kacc : Same H0' H5 := (s3.k.trans s4.k).trans s5.k
    cases b with
    | false => exact ⟨acc, vacc, O5, H5, s15, d5, k5, o5, rps_mono kacc _ _ racc, by omega, φ.2 rfl⟩
    | true =>
      show te σ4 HH5 _
      refine φ.1 rfl σ4 HH5 H5 _ (((st2.trans s3).trans s4).trans s5) (e4.mono s5.k) fun y dy H6 O6 HH6 s6 r6 φ6 => ?_
      obtain ⟨d6, k6, o6⟩ := fD s6 d5 k5 o5
      have l1 := rps_len racc
      refine ⟨vacc, d6, by rw [l1]; exact Nat.lt_of_lt_of_le (show acc.length < 100001 by omega) (by decide), acc ++ [dy], vacc ++ [y], O6, H6, (s15.trans s6).aside hD d6 k6 o6 (fun ps q => by cases q) (fun ps q => by cases q), upd_same, k6, o6, rps_append (rps_mono (kacc.trans s6.k) _ _ racc) (rps_one r6), by rw [List.length_append]; simpa using hlen, φ6⟩
  · have e : i = n := by omega
    subst e
    refine .inl ⟨it.stop i _ _ _ st2 s2.k (wc _ _ _ w) (Nat.le_refl _), ?_⟩
    rcases fin acc O' w with f | f
    · have s4 := s2.adopt hD hDl h0 hO (fun ps q => by cases q)
      exact k _ (.lst acc) _ _ _ (s1.trans s4) ⟨D, vacc, rfl, upd_same, rps_mono (same_new h0) _ _ racc⟩ f
    · exact k _ (R D) _ _ _ (s1.trans (s2.adoptO (od := .lst acc) hD hDl h0 ⟨vacc, rfl, racc⟩)) rfl (f D hO)
end
end DL

set_option Elab.async false
set_option linter.all false
set_option maxRecDepth 100000
/-! DLE: for over enumerate(tuple), over the library's enumerate of any iterator (PyProof.Draws, KE.GoesEnum); the library begins an enumerate of one argument over lists and texts alone -/
namespace DL
open PySem PySem.Spec PyProof.Rows L2
/-- the enumerate that is made over an iterator in the next free cell -/
abbrev numObj (c : Addr) : Obj := { cls := .type "enumerate", data := .fields #[.none, .bool false, .ref c, rawInt 0, .none, .none] }
set_option maxHeartbeats 1000000 in
theorem num_new {v : Value} {o : Obj} {Hh : Heap → Prop} (B : Begins v o Hh) : Meets (Builtin.«enumerate.__new__» ⟨[.type "enumerate", v], []⟩)
    (fun _ R s => Hh s.heap ∧ R (.ok (.ret (.ref (s.heap.push o).objs.size))) { s with heap := (s.heap.push o).push (numObj s.heap.objs.size) }) := by
  refine .of_wp fun prog w A R ⟨heap, gens, drawn, toks, os⟩ ⟨ready, wish⟩ => ?_
  have isEnum := sub_enumerate
  have begins : ∀ {A' : Around} {E Q : Value → Shared → Prop}, Q (.ref heap.objs.size) ⟨heap.push o, gens, drawn, toks, os⟩ → wpAny (model prog w) A' (pyIter v) Q E ⟨heap, gens, drawn, toks, os⟩ := B.iter prog w _ _ _ _ ready
  wp_walk using begins
  refine wpAny_stack_any fun _ => wpAny_pure ?_
  split
  · rename_i k _ _ _ _ _
    cases (k == Value.type "enumerate") <;> (wp_walk using begins; exact ⟨_, rfl, wish⟩)
  · wp_walk using begins
    exact ⟨_, rfl, wish⟩
theorem num_call {prog : Program} {w : World} {A : Around} {E Q : Value → Shared → Prop} {s : Shared} {v : Value} {o : Obj} {Hh : Heap → Prop} (B : Begins v o Hh) (ready : Hh s.heap)
    (wish : ∀ h', h'.get? (s.heap.objs.size + 1) = some (numObj s.heap.objs.size) → h'.get? s.heap.objs.size = some o → (∀ c u, s.heap.get? c = some u → h'.get? c = some u) → Q (.ref (s.heap.objs.size + 1)) { s with heap := h' }) :
    wpAny (model prog w) A (call (.type "enumerate") [v]) Q E s := by
  have at1 : ((s.heap.push o).push (numObj s.heap.objs.size)).get? (s.heap.push o).objs.size = some (numObj s.heap.objs.size) := Heap.get?_push_size _ rfl
  have len : (s.heap.push o).objs.size = s.heap.objs.size + 1 := by rw [Heap.size_push]
  refine callType_new F.called_enumerate (by decide) (F.typeCall_enumerate_1 _) (F.newCall_enumerate_1 _) (fun ob => F.args_object_init_2 ob _) F.entry_enumerate_new (num_new B) ⟨ready, ⟨_, at1, rfl⟩, ?_⟩
  rw [len] at at1 ⊢
  exact wish _ at1 (Heap.get?_push_of_some _ (Heap.get?_push_size _ B.free)) fun c u e => Heap.get?_push_of_some _ (Heap.get?_push_of_some _ e)
/-- the tuple at a holds xs; turn i makes the pair of i and the item at i -/
def NumIt (K : PySem.W.Frag) (a : Addr) (xs : List V) : It where
  go := fun i H => SqT K H a xs ∧ i < xs.length
  stop := fun i H => SqT K H a xs ∧ xs.length ≤ i
  yld := fun i H v H' => ∃ p x, v = .ref p ∧ H p = none ∧ xs[i]? = some x ∧ H' = upd H p (.tup [.int (i : Nat), x])
/-- what the two cells hold ahead of turn i of n: the enumerate at c, its iterator at d -/
structure NumAt (c d a : Addr) (n i : Nat) (h : Heap) : Prop where
  isC : ∃ old, IsEnum h c d ((i : Nat) : Int) old
  isD : h.IsTupleIter d a i
  le : i ≤ n
theorem two_all {c d : Addr} {Z : Addr → Prop} (hc : Z c) (hd : Z d) : ∀ b ∈ [c, d], Z b := fun b hb => (List.mem_cons.mp hb).elim (fun e => e ▸ hc) fun e => (List.mem_singleton.mp e) ▸ hd
theorem num_turn {P : Program} {w : World} {K : PySem.W.Frag} {elts : List Expr} {kk : Nat} {tpos : Pos} {a c d : Addr} {xs : List V} (ncd : c ≠ d) (nca : c ≠ a) (nad : a ≠ d) : Turn P w K (.Tuple elts kk tpos) (NumIt K a xs) [c, d] c (NumAt c d a xs.length) := by
  have lv : ∀ i h, NumAt c d a xs.length i h → ∀ b ∈ [c, d], ∃ o, h.get? b = some o ∧ ∀ v, o.data ≠ .cell v := fun i h s => by
    obtain ⟨old, hc⟩ := s.isC
    obtain ⟨od, hd, _, dd⟩ := s.isD
    exact two_all ⟨_, hc, fun _ q => by cases q⟩ ⟨od, hd, fun _ q => by rw [dd] at q; cases q⟩
  refine ⟨List.mem_cons_self, lv, fun i h h' s k => ⟨let ⟨old, e⟩ := s.isC; ⟨old, k c (by simp) _ e⟩, s.isD.at fun o e => k d (by simp) o e, s.le⟩, ?_, ?_, fun A i s Q E st q => let ⟨_, e⟩ := st.isC; wpAny_pyIter_enum e q⟩
  · intro X eP ew eK calm i pins s σ H E inv fresh at_ more
    subst eP ew eK
    obtain ⟨sq, lt⟩ := more
    obtain ⟨us, rel, tup, _⟩ := inv.tuple sq
    have len := rel.length
    obtain ⟨x, hx⟩ : ∃ x, xs[i]? = some x := ⟨_, List.getElem?_eq_getElem lt⟩
    obtain ⟨u, hu, ru⟩ := rel.get hx
    obtain ⟨old, hc⟩ := at_.isC
    have small : ∀ b ∈ [c, d], b < s.heap.objs.size := fun b hb => let ⟨_, e, _⟩ := lv _ _ at_ b hb; Heap.lt_size e
    refine wpAny_pyNext_enum_itemD (Draws.tuple (A := X.A.in1) (inv.ok.hd calm) d a nad us.toArray) hc ⟨at_.isD, tup⟩ (by simp; omega) ncd (by simp [ncd, nca]) fun v h1 tk e1 out d1 new1 _ keep1 => ⟨_, rfl, wpAny_letOwnedTupleGo_enum (s := { s with heap := h1, toks := tk + 1 }) out fun h2 c2 but => ?_⟩
    have e1 : us[i]? = some v := by simpa using e1
    have q1 : v = u := Option.some.inj (e1.symm.trans hu)
    subst q1
    have past : ∀ b o, b ∉ [c, d] → s.heap.get? b = some o → h2.get? b = some o := fun b o hb e => by
      simp only [List.mem_cons, List.not_mem_nil, or_false, not_or] at hb
      exact (but.2 b hb.1).trans (keep1 b o hb.1 hb.2 e)
    have pair2 : h2.get? s.heap.objs.size = some { cls := .type "tuple", data := .seq #[.int i tk, v] } := by
      rw [but.2 _ (Nat.ne_of_gt (small c (by simp)))]
      exact new1
    have inv2 : Inv X pins σ (upd H s.heap.objs.size (.tup [.int (i : Nat), x])) { s with heap := h2, toks := tk + 1 } :=
      inv.turnedNew past fresh (Nat.le_refl _) ⟨by show 2 ≤ sizeLine; decide, [.int i tk, v], .cons ⟨_, rfl⟩ (.cons ru .nil), _, pair2, rfl, _, rfl⟩
    refine ⟨.ref s.heap.objs.size, _, inv2, rfl, ⟨_, x, rfl, inv.hok.fresh (Nat.le_refl _), hx, rfl⟩, ⟨⟨_, by rw [Int.natCast_add]; exact c2⟩, d1.1.at fun o e => (but.2 d (Ne.symm ncd)).trans e, lt⟩, fun b hb => ?_⟩
    rw [upd_ne (Nat.ne_of_lt (small b hb))]
    exact (fresh b hb).1
  · intro X eP ew eK calm i pins s σ H E inv fresh at_ over
    subst eP ew eK
    obtain ⟨sq, le⟩ := over
    obtain ⟨us, rel, tup, _⟩ := inv.tuple sq
    have len := rel.length
    have n := at_.le
    obtain ⟨old, hc⟩ := at_.isC
    have here : i = us.toArray.size := by simp; omega
    refine wpAny_pyNext_enum_endD (Draws.tuple (A := X.A.in1) (inv.ok.hd calm) d a nad us.toArray) hc (here ▸ ⟨at_.isD, tup⟩) fun h1 ext => ⟨rfl, inv.turnedL (t' := s.toks) (ch := [c, d]) (fun b o hb e => ext b o (fun q => hb (by simp [q])) e) fresh⟩
def iNum (K : PySem.W.Frag) (ta : TA) : TI := fun σ H R => ta σ H fun vs H1 => ∃ (a : Addr) (xs : List V), vs = [V.ref a] ∧ SqT K H1 a xs ∧ R (NumIt K a xs) H1
theorem pi_num {X : Cx} {e : Expr} {ta : TA} {p pos tpos : Pos} {elts : List Expr} {kk : Nat} (hg : Gl X "enumerate") (hm : X.mg "enumerate" = none) (ha : PA X [e] ta) (hs : starEach [e] X.env = [(false, eval e X.env)]) :
    PI X (.Tuple elts kk tpos) (.Call (.Name "enumerate" p) [e] [] pos) (iNum X.K ta) := by
  refine ⟨fun pins s σ H R inv h => Call_ (ld_blt inv hg hm boot_enumerate (PyProof.Rows.callWith_type1 (thn (ha.run pos pins s σ H _ inv h) fun us s1 ⟨vs, H1, inv1, rel, a, xs, ev, sq, q⟩ => ?_) hs rfl))⟩
  subst ev
  obtain ⟨rfl⟩ : us = [.ref a] := by
    cases rel with
    | cons r1 rel =>
      cases rel
      cases r1
      rfl
  obtain ⟨ts, _, tup, _⟩ := inv1.tuple sq
  have la : a < s1.heap.objs.size := let ⟨_, e, _⟩ := tup; Heap.lt_size e
  have new : ∀ n, FpOk X pins H1 (s1.heap.objs.size + n) := fun n => inv1.fpOk (Nat.le_add_right _ _) (inv1.hok.fresh (Nat.le_add_right _ _))
  refine num_call (begins_tuple a ts.toArray) tup fun h1 c1 d1 keep => wpAny_pyIter_enum c1 ?_
  exact ⟨_, [s1.heap.objs.size + 1, s1.heap.objs.size], _, NumIt X.K a xs, H1, rfl, inv1.kept (t' := s1.toks) keep, num_turn (Nat.succ_ne_self _) (Nat.ne_of_gt (Nat.lt_succ_of_lt la)) (Nat.ne_of_lt la), ⟨⟨_, c1⟩, ⟨_, d1, rfl, rfl⟩, Nat.zero_le _⟩, two_all (new 1) (new 0), q⟩
end DL

set_option Elab.async false
set_option linter.all false
set_option maxRecDepth 100000
/-! DL3: weakest readings; rules by syntax -/
namespace DL
open PySem PySem.Spec PyProof.Rows L2

/-- a look inside is asked for -/
structure Hid (p : Prop) : Prop where
  out : p
/-! ### the weakest readings -/
def wE (X : Cx) (e : Expr) : TE := fun σ H Q => ∀ pins s, Inv X pins σ H s → Hid (wpAny (model X.prog X.w) X.A (eval e X.env) (EP X pins σ Q) X.xe s)
def wT (X : Cx) (e : Expr) : TT := fun σ H Q => ∀ pins s, Inv X pins σ H s → Hid (wpAny (model X.prog X.w) X.A (isTrue e X.env (eval e X.env)) (TP X pins σ Q) X.xe s)
def wW (X : Cx) (e : Expr) : TT := fun σ H Q => ∀ whole pins s, Inv X pins σ H s → Hid (wpAny (model X.prog X.w) X.A (isTrue e X.env whole) (TP X pins σ Q) X.xe s)
def wA (X : Cx) (es : List Expr) : TA := fun σ H Q => ∀ pos pins s, Inv X pins σ H s → Hid (wpAny (model X.prog X.w) X.A (spliced (backTo pos (starEach es X.env))) (AP X pins σ Q) X.xe s)
def wK (X : Cx) (kws : List Keyword) : TA := fun σ H Q => ∀ pos pins s, Inv X pins σ H s → Hid (wpAny (model X.prog X.w) X.A (evalAll ((backToKw pos (keywordEach kws X.env)).map (·.2))) (AP X pins σ Q) X.xe s)
def wS (X : Cx) (st : Stmt) : TS := fun D σ H => ∀ pins s, Inv X pins σ H s → Hid (wpAny (model X.prog X.w) X.A (exec st X.env) (SP X pins D) X.xe s)
def wSs (X : Cx) (st : List Stmt) : TS := fun D σ H => ∀ pins s, Inv X pins σ H s → Hid (wpAny (model X.prog X.w) X.A (execs st X.env) (SP X pins D) X.xe s)
def wI (X : Cx) (tg e : Expr) : TI := fun σ H R => ∀ pins s, Inv X pins σ H s → Hid (wpAny (model X.prog X.w) X.A (eval e X.env) (fun v s1 => wpAny (model X.prog X.w) X.A (pyIter v) (PIE X pins σ tg R) X.xe s1) X.xe s)
def wTs (X : Cx) (ifs : List Expr) : TT := fun σ H Q => ∀ pins s, Inv X pins σ H s → Hid (wpAny (model X.prog X.w) X.A (forIn ifs true fun c r => if r = true then do let ok ← isTrue c X.env (eval c X.env); pure (ForInStep.yield ok) else pure (ForInStep.yield r)) (TP X pins σ Q) X.xe s)
section
variable {X : Cx} {e : Expr} {es ifs : List Expr} {st : Stmt} {sts : List Stmt} {tg : Expr} {kws : List Keyword}
theorem pe_w : PE X e (wE X e) := ⟨fun pins s _ _ _ I h => (h pins s I).out⟩
theorem pt_w : PT X e (wT X e) := ⟨fun pins s _ _ _ I h => (h pins s I).out⟩
theorem pw_w : PW X e (wW X e) := ⟨fun wh pins s _ _ _ I h => (h wh pins s I).out⟩
theorem pa_w : PA X es (wA X es) := ⟨fun pos pins s _ _ _ I h => (h pos pins s I).out⟩
theorem pk_w : PK X kws (wK X kws) := ⟨fun pos pins s _ _ _ I h => (h pos pins s I).out⟩
theorem ps_w : PS X st (wS X st) := ⟨fun pins s _ _ _ I h => (h pins s I).out⟩
theorem pss_w : PSs X sts (wSs X sts) := ⟨fun pins s _ _ _ I h => (h pins s I).out⟩
theorem pi_w : PI X tg e (wI X tg e) := ⟨fun pins s _ _ _ I h => (h pins s I).out⟩
theorem pts_w : PTs X ifs (wTs X ifs) := ⟨fun pins s _ _ _ I h => (h pins s I).out⟩
end
/-! ### the judgements -/
def WD (z : En) (X : Cx) (e : Expr) (Γ : Env') (O : OHp) (Φ : Dat → OHp → Prop) : Prop := RD z X.K (wE X e) Γ O Φ
def WT (z : En) (X : Cx) (e : Expr) (Γ : Env') (O : OHp) (Ψ : Bool → OHp → Prop) : Prop := RT z X.K (wT X e) Γ O Ψ
def WW (z : En) (X : Cx) (e : Expr) (Γ : Env') (O : OHp) (Ψ : Bool → OHp → Prop) : Prop := RT z X.K (wW X e) Γ O Ψ
def WA (z : En) (X : Cx) (es : List Expr) (Γ : Env') (O : OHp) (Ψ : List Dat → OHp → Prop) : Prop := RA z X.K (wA X es) Γ O Ψ
def WK (z : En) (X : Cx) (kws : List Keyword) (Γ : Env') (O : OHp) (Ψ : List Dat → OHp → Prop) : Prop := RA z X.K (wK X kws) Γ O Ψ
def WS (z : En) (X : Cx) (st : Stmt) (Γ : Env') (O : OHp) (E : EnD) : Prop := RS z X.K (wS X st) Γ O E
def WSs (z : En) (X : Cx) (st : List Stmt) (Γ : Env') (O : OHp) (E : EnD) : Prop := RS z X.K (wSs X st) Γ O E
def WI (z : En) (X : Cx) (tg e : Expr) (Γ : Env') (O : OHp) (Φ : Nat → (Nat → Dat → Prop) → (OHp → Prop) → OHp → Prop) : Prop := RI z X.K (wI X tg e) Γ O Φ
def WTs (z : En) (X : Cx) (ifs : List Expr) (Γ : Env') (O : OHp) (Ψ : Bool → OHp → Prop) : Prop := RT z X.K (wTs X ifs) Γ O Ψ
section
variable {z : En} {X : Cx} {e a b c o i : Expr} {es ifs : List Expr} {st : Stmt} {sts : List Stmt} {tg : Expr} {kws : List Keyword} {Γ : Env'} {O : OHp} {Φ : Dat → OHp → Prop} {Ψ : Bool → OHp → Prop} {Θ : List Dat → OHp → Prop} {E : EnD} {pos : Pos}
theorem wd_of {t : TE} (h : PE X e t) (r : RD z X.K t Γ O Φ) : WD z X e Γ O Φ := fun σ H H0 Q st en k pins s I => ⟨h.run pins s σ H Q I (r σ H H0 Q st en k)⟩
theorem wt_of {t : TT} (h : PT X e t) (r : RT z X.K t Γ O Ψ) : WT z X e Γ O Ψ := fun σ H H0 Q st en k pins s I => ⟨h.run pins s σ H Q I (r σ H H0 Q st en k)⟩
theorem ww_of {t : TT} (h : PW X e t) (r : RT z X.K t Γ O Ψ) : WW z X e Γ O Ψ := fun σ H H0 Q st en k wh pins s I => ⟨h.run wh pins s σ H Q I (r σ H H0 Q st en k)⟩
theorem wa_of {t : TA} (h : PA X es t) (r : RA z X.K t Γ O Θ) : WA z X es Γ O Θ := fun σ H H0 Q st en k pos pins s I => ⟨h.run pos pins s σ H Q I (r σ H H0 Q st en k)⟩
theorem wk_of {t : TA} (h : PK X kws t) (r : RA z X.K t Γ O Θ) : WK z X kws Γ O Θ := fun σ H H0 Q st en k pos pins s I => ⟨h.run pos pins s σ H Q I (r σ H H0 Q st en k)⟩
theorem ws_of {t : TS} (h : PS X st t) (r : RS z X.K t Γ O E) : WS z X st Γ O E := fun σ H H0 D s0 en k pins s I => ⟨h.run pins s σ H D I (r σ H H0 D s0 en k)⟩
theorem wss_of {t : TS} (h : PSs X sts t) (r : RS z X.K t Γ O E) : WSs z X sts Γ O E := fun σ H H0 D s0 en k pins s I => ⟨h.run pins s σ H D I (r σ H H0 D s0 en k)⟩
theorem wi_of {wi : TI} {F : Nat → (Nat → Dat → Prop) → (OHp → Prop) → OHp → Prop} (h : PI X tg e wi) (r : RI z X.K wi Γ O F) : WI z X tg e Γ O F := fun σ H H0 Q st en k pins s I => ⟨h.run pins s σ H Q I (r σ H H0 Q st en k)⟩
theorem wts_of {t : TT} (h : PTs X ifs t) (r : RT z X.K t Γ O Ψ) : WTs z X ifs Γ O Ψ := fun σ H H0 Q st en k pins s I => ⟨h.run pins s σ H Q I (r σ H H0 Q st en k)⟩
theorem wt_ww (h : WW z X e Γ O Ψ) : WT z X e Γ O Ψ := fun σ H H0 Q st en k pins s I => h σ H H0 Q st en k _ pins s I

/-! ### names and constants -/
theorem wd_name (i : Nat) {x : Str} {d : Dat} (h : Φ d O) (hN : X.N[i]? = some x := by rfl) (hΓ : Γ[i]? = some (some d) := by rfl) (hv : Vis X.env.scope x := by first | exact Or.inl rfl | exact Or.inr (Or.inl rfl) | exact Or.inr (Or.inr rfl))
    (hd : (x == ("__debug__" : Str)) = false := by decide) (hcd : (x == ("__classdict__" : Str)) = false := by decide) : WD z X (.Name x pos) Γ O Φ :=
  wd_of (pv i hN hv hd hcd) fun σ H H0 Q st en k => let ⟨v, e, r⟩ := en.2 i d hΓ; ⟨v, e, k v d H0 O H st.s.refl r h⟩
theorem wd_int {n : Int} {j : Nat} (h : Φ (I n) O) : WD z X (.Constant (.int n) j pos) Γ O Φ := wd_of pe_int (rd_c h)
theorem wd_bl {n : Bool} {j : Nat} (h : Φ (B n) O) : WD z X (.Constant (.bool n) j pos) Γ O Φ := wd_of pe_bl (rd_c h)
theorem wd_non {j : Nat} (h : Φ N O) : WD z X (.Constant .none j pos) Γ O Φ := wd_of pe_non (rd_c h)
theorem wd_str {n : Str} {j : Nat} (h : Φ (S n) O) : WD z X (.Constant (.str n) j pos) Γ O Φ := wd_of pe_str (rd_c h)
/-- a def of the module as a value -/
theorem wd_glob {x : Str} {f : Addr} (hm : X.mg x = some (.ref f)) (h : Φ (R f) O) (hg : Gl X x := by rfl) (hd : (x == ("__debug__" : Str)) = false := by decide) : WD z X (.Name x pos) Γ O Φ := wd_of (pe_glob (v := .ref f) hg hm rfl hd) (rd_c h)
/-- a built-in class as a value -/
theorem wd_ty {x : Str} {T : String} (hm : X.mg x = none) (hv : bootBuiltins x = some (.type T)) (h : Φ (.v (.ty T)) O) (hg : Gl X x := by rfl) (hn : x ≠ "__name__" := by decide) (hd : (x == ("__debug__" : Str)) = false := by decide) : WD z X (.Name x pos) Γ O Φ := wd_of (pe_bltn (v := .ty T) hg hm hv rfl hn hd) (rd_c h)

/-! ### operators -/
theorem wd_op {op : Operator} {r : R2} (ho : OpR X (binaryOp op) r) (h : WD z X a Γ O fun d1 O1 => WD z X b Γ O1 fun d2 O2 => RR z X.K r d1 d2 O2 Φ) : WD z X (.BinOp a op b pos) Γ O Φ := wd_of (pe_op ho pe_w pe_w) (rd_op h)
theorem wd_cmp {op : CmpOp} {r : R2} (ho : OpR X (compareOp op) r) (h : WD z X a Γ O fun d1 O1 => WD z X b Γ O1 fun d2 O2 => RR z X.K r d1 d2 O2 Φ) (hm : behindInMarks op b = false := by first | exact nomark _ | rfl) : WD z X (.Compare a [op] [b] pos) Γ O Φ := wd_of (pe_cmpR ho pe_w pe_w hm) (rd_op h)
theorem wd_un {op : UnaryOp} {r : V → Hp → VK → Prop} (ho : UnR X (unaryOp op) r) (h : WD z X a Γ O fun d O1 => RU z X.K r d O1 Φ) : WD z X (.UnaryOp op a pos) Γ O Φ := wd_of (pe_un ho pe_w) (rd_un h)
theorem wt_cmp {op : CmpOp} {r : R2} (ho : OpR X (compareOp op) r) (h : WD z X a Γ O fun d1 O1 => WD z X b Γ O1 fun d2 O2 => RR z X.K r d1 d2 O2 fun d O3 => ∃ k, d = B k ∧ Ψ k O3) (hm : behindInMarks op b = false := by first | exact nomark _ | rfl) : WT z X (.Compare a [op] [b] pos) Γ O Ψ := wt_of (pt_cmpR ho pe_w pe_w hm) (rt_test (rd_op h))
theorem rr_I0 {K : PySem.W.Frag} {g : Int → Int → V} {i j : Int} (h : Φ (.v (g i j)) O) : RR z K (rI0 g) (I i) (I j) O Φ := fun H H0 v1 v2 Q st r1 r2 k => ⟨i, j, r1, r2, k _ (.v (g i j)) _ _ _ st.s.refl rfl h⟩
theorem rr_I {K : PySem.W.Frag} {C : Int → Int → Prop} {g : Int → Int → V} {i j : Int} (hc : C i j) (h : Φ (.v (g i j)) O) : RR z K (rI C g) (I i) (I j) O Φ := fun H H0 v1 v2 Q st r1 r2 k => ⟨i, j, r1, r2, hc, k _ (.v (g i j)) _ _ _ st.s.refl rfl h⟩
theorem rr_eq {K : PySem.W.Frag} {x y : V} (hs : scal x y = true) (h : Φ (B (decide (x = y))) O) : RR z K rEq (.v x) (.v y) O Φ := fun H H0 v1 v2 Q st r1 r2 k => by
  have r1 : v1 = x := r1
  have r2 : v2 = y := r2
  subst r1 r2
  exact ⟨hs, k _ (.v _) _ _ _ st.s.refl rfl h⟩
theorem rr_ne {K : PySem.W.Frag} {x y : V} (hs : scal x y = true) (h : Φ (B (!decide (x = y))) O) : RR z K rNe (.v x) (.v y) O Φ := fun H H0 v1 v2 Q st r1 r2 k => by
  have r1 : v1 = x := r1
  have r2 : v2 = y := r2
  subst r1 r2
  exact ⟨hs, k _ (.v _) _ _ _ st.s.refl rfl h⟩
theorem ru_neg {K : PySem.W.Frag} {i : Int} (h : Φ (I (-i)) O) : RU z K (rU fun i => .int (-i)) (I i) O Φ := fun H H0 v Q st r k => ⟨i, r, k _ (.v _) _ _ _ st.s.refl rfl h⟩
/-- is None, is not None -/
def isNon : Dat → Bool
  | .v .non => true
  | .any => true
  | _ => false
def notAny : Dat → Bool
  | .any => false
  | _ => true
theorem rp_non {K : PySem.W.Frag} {H : Hp} {d : Dat} {v : V} (ha : notAny d = true) (r : rp K H d v) : decide (v = .non) = isNon d := by
  cases d with
  | v x =>
    have r : v = x := r
    subst r
    cases v <;> first | rfl | exact decide_eq_false (fun q => by cases q)
  | tup ds => obtain ⟨a, vs, e, _⟩ := r; subst e; exact decide_eq_false (fun q => by cases q)
  | lst ds => obtain ⟨a, vs, e, _⟩ := r; subst e; exact decide_eq_false (fun q => by cases q)
  | ins C ns ds => obtain ⟨a, dx, vs, e, _⟩ := r; subst e; exact decide_eq_false (fun q => by cases q)
  | dic => obtain ⟨a, vs, e, _⟩ := r; subst e; exact decide_eq_false (fun q => by cases q)
  | scr ns => obtain ⟨a, e, _⟩ := r; subst e; exact decide_eq_false (fun q => by cases q)
  | any => cases ha
theorem wd_isN {j : Nat} {p2 : Pos} (h : WD z X a Γ O fun d O1 => notAny d = true ∧ Φ (B (isNon d)) O1) : WD z X (.Compare a [.Is] [.Constant .none j p2] pos) Γ O Φ :=
  wd_of (pe_cmp (pc_isN pe_w)) fun σ H H0 Q st en k => h σ H H0 _ st en fun v d H1 O1 HH s r ⟨q, φ⟩ => by
    rw [rp_non q r]
    exact k _ (B (isNon d)) _ _ _ s rfl φ
theorem wd_notN {j : Nat} {p2 : Pos} (h : WD z X a Γ O fun d O1 => notAny d = true ∧ Φ (B (!isNon d)) O1) : WD z X (.Compare a [.IsNot] [.Constant .none j p2] pos) Γ O Φ :=
  wd_of (pe_cmp (pc_notN pe_w)) fun σ H H0 Q st en k => h σ H H0 _ st en fun v d H1 O1 HH s r ⟨q, φ⟩ => by
    rw [rp_non q r]
    exact k _ (B (!isNon d)) _ _ _ s rfl φ
theorem wt_isN {j : Nat} {p2 : Pos} (h : WD z X a Γ O fun d O1 => notAny d = true ∧ Ψ (isNon d) O1) : WT z X (.Compare a [.Is] [.Constant .none j p2] pos) Γ O Ψ :=
  wt_of (pt_cmp (pc_isN pe_w)) fun σ H H0 Q st en k => h σ H H0 _ st en fun v d H1 O1 HH s r ⟨q, φ⟩ => by
    rw [rp_non q r]
    exact ⟨_, rfl, k _ _ _ _ s φ⟩
theorem wt_notN {j : Nat} {p2 : Pos} (h : WD z X a Γ O fun d O1 => notAny d = true ∧ Ψ (!isNon d) O1) : WT z X (.Compare a [.IsNot] [.Constant .none j p2] pos) Γ O Ψ :=
  wt_of (pt_cmp (pc_notN pe_w)) fun σ H H0 Q st en k => h σ H H0 _ st en fun v d H1 O1 HH s r ⟨q, φ⟩ => by
    rw [rp_non q r]
    exact ⟨_, rfl, k _ _ _ _ s φ⟩
/-! ### tests -/
theorem wt_val (h : WD z X e Γ O fun d O1 => ∃ b, d = B b ∧ Ψ b O1) (he : ∀ whole, isTrue e X.env whole = (do let v ← whole; standAt e.pos; holding [v] (truthy v)) := by intro _; rfl) : WT z X e Γ O Ψ := wt_of (pt_val pe_w he) (rt_B h)
theorem wt_not (h : WT z X a Γ O fun b O1 => Ψ (!b) O1) : WT z X (.UnaryOp .Not a pos) Γ O Ψ := wt_of (pt_not pt_w) (rt_not h)
theorem ww_and1 (h : WT z X a Γ O Ψ) : WW z X (.BoolOp .And [a] pos) Γ O Ψ := ww_of (pw_and1 pt_w) h
theorem ww_or1 (h : WT z X a Γ O Ψ) : WW z X (.BoolOp .Or [a] pos) Γ O Ψ := ww_of (pw_or1 pt_w) h
theorem ww_and (h : WT z X a Γ O fun b' O1 => (b' = false → Ψ false O1) ∧ (b' = true → WW z X (.BoolOp .And (b :: es) pos) Γ O1 Ψ)) : WW z X (.BoolOp .And (a :: b :: es) pos) Γ O Ψ := ww_of (pw_and pt_w pw_w) (rt_and h)
theorem ww_or (h : WT z X a Γ O fun b' O1 => (b' = true → Ψ true O1) ∧ (b' = false → WW z X (.BoolOp .Or (b :: es) pos) Γ O1 Ψ)) : WW z X (.BoolOp .Or (a :: b :: es) pos) Γ O Ψ := ww_of (pw_or pt_w pw_w) (rt_or h)
theorem wd_one {op : BoolOp} (h : WD z X a Γ O Φ) : WD z X (.BoolOp op [a] pos) Γ O Φ := wd_of (pe_one pe_w) h
theorem wd_and (h : WD z X a Γ O fun d O1 => ∃ b', d = B b' ∧ (b' = false → Φ (B false) O1) ∧ (b' = true → WD z X (.BoolOp .And (b :: es) pos) Γ O1 Φ)) : WD z X (.BoolOp .And (a :: b :: es) pos) Γ O Φ := wd_of (pe_and pe_w pe_w) (rd_andV h)
theorem wd_or (h : WD z X a Γ O fun d O1 => ∃ b', d = B b' ∧ (b' = true → Φ (B true) O1) ∧ (b' = false → WD z X (.BoolOp .Or (b :: es) pos) Γ O1 Φ)) : WD z X (.BoolOp .Or (a :: b :: es) pos) Γ O Φ := wd_of (pe_or pe_w pe_w) (rd_orV h)
theorem wd_not (h : WD z X a Γ O fun d O1 => ∃ b', d = B b' ∧ Φ (B (!b')) O1) : WD z X (.UnaryOp .Not a pos) Γ O Φ := wd_of (pe_not pe_w) (rd_notV h)
theorem wd_ifExp (h : WT z X c Γ O fun k O1 => (k = true → WD z X a Γ O1 Φ) ∧ (k = false → WD z X b Γ O1 Φ)) : WD z X (.IfExp c a b pos) Γ O Φ := wd_of (pe_ifExp pt_w pe_w pe_w) (rd_if h)
/-! ### displays, arguments -/
theorem wa_nil (h : Θ [] O) : WA z X [] Γ O Θ := wa_of pa_nil (ra_nil h)
theorem wa_cons (h : WD z X e Γ O fun d O1 => WA z X es Γ O1 fun ds O2 => Θ (d :: ds) O2) (hs : starEach (e :: es) X.env = (false, eval e X.env) :: starEach es X.env := by rfl) : WA z X (e :: es) Γ O Θ := wa_of (pa_cons pe_w pa_w hs) (ra_cons h)
theorem wk_nil (h : Θ [] O) : WK z X [] Γ O Θ := wk_of pk_nil (ra_nil h)
theorem wk_cons {nm : Option Str} {kp : Pos} (h : WD z X e Γ O fun d O1 => WK z X kws Γ O1 fun ds O2 => Θ (d :: ds) O2) : WK z X (⟨nm, e, kp⟩ :: kws) Γ O Θ := wk_of (pk_cons pe_w pk_w) (ra_cons h)
theorem wd_tup {x1 : Nat} (h : WA z X es Γ O fun ds O1 => ds.length ≤ 100000 ∧ Φ (.tup ds) O1) : WD z X (.Tuple es x1 pos) Γ O Φ := wd_of (pe_tup pa_w) (rd_tup h)
theorem wd_lst (h : WA z X es Γ O fun ds O1 => ds.length ≤ 100000 ∧ NewL O1 ds Φ) : WD z X (.List es pos) Γ O Φ := wd_of (pe_lst pa_w) (rd_lst h)
theorem WD.freeze (h : WD z X e Γ O fun d O1 => ∃ p ds, d = R p ∧ O1 p = some (.lst ds) ∧ Φ (.lst ds) (del O1 p)) : WD z X e Γ O Φ := RD.freeze h
/-! ### statements -/
theorem wss_nil (h : E.nx Γ O) : WSs z X [] Γ O E := wss_of pss_nil (rs_next h)
theorem wss_cons (h : WS z X st Γ O { E with nx := fun Γ' O' => WSs z X sts Γ' O' E }) : WSs z X (st :: sts) Γ O E := wss_of (pss_cons ps_w pss_w) (rs_seq h)
theorem wss_one (h : WS z X st Γ O E) : WSs z X [st] Γ O E := wss_of (pss_one ps_w) h
theorem ws_expr (h : WD z X e Γ O fun _ O1 => E.nx Γ O1) (hs : swapsWith e none pos.line X.env = pure false := by rfl) : WS z X (.Expr e pos) Γ O E := ws_of (ps_expr pe_w hs) (rs_drop h)
theorem ws_ret (h : WD z X e Γ O E.rt) : WS z X (.Return (some e) pos) Γ O E := ws_of (ps_ret pe_w) (rs_ret h)
theorem ws_pass (h : E.nx Γ O) : WS z X (.Pass pos) Γ O E := ws_of ps_pass (rs_next h)
theorem ws_continue (h : E.ct Γ O) : WS z X (.Continue pos) Γ O E := ws_of ps_continue (rs_cont h)
theorem ws_if {s1 s2 : List Stmt} (h : WT z X c Γ O fun b O1 => (b = true → WSs z X s1 Γ O1 E) ∧ (b = false → WSs z X s2 Γ O1 E)) : WS z X (.If c s1 s2 pos) Γ O E := ws_of (ps_if pt_w pss_w pss_w) (rs_if h)
theorem ws_set (i : Nat) {x : Str} {p2 : Pos} (h : WD z X e Γ O fun d O1 => E.nx (Γ.set i (some d)) O1) (hN : X.N.Nodup) (hi : X.N[i]? = some x := by rfl) (hx : Loc X.env.scope x := by first | exact Or.inl rfl | exact Or.inr rfl)
    (hs : swapsWith e (some (.Name x p2)) pos.line X.env = pure false := by rfl) (hf : X.fn x = true ∨ X.env.scope.names.lookup x = some .local := by first | exact .inl rfl | exact .inr rfl) : WS z X (.Assign [.Name x p2] e pos) Γ O E :=
  ws_of (ps_set hN hi hx pe_w hs hf) (rs_asg (rd_imp h fun _ _ q => rg_name q))
def WG (z : En) (X : Cx) (tg : Expr) (d : Dat) (Γ : Env') (O : OHp) (N : Env' → OHp → Prop) : Prop := ∃ g, PG X tg g ∧ RG z X.K g d Γ O N
theorem ws_asg (g : TG) (pg : PG X tg g) (h : WD z X e Γ O fun d O1 => RG z X.K g d Γ O1 E.nx) (hs : swapsWithSole [tg] e pos.line X.env = pure false := by rfl) (hw : swappedStores [tg] e X.env = pure none := by rfl)
    (h1 : (assignEach [tg] X.env).map (·.2) = [assign tg X.env] := by rfl) : WS z X (.Assign [tg] e pos) Γ O E := ws_of (ps_asg pe_w pg hs hw h1) (rs_asg h)
theorem pg2 (i j : Nat) {x y : Str} {p1 p2 p3 : Pos} {k : Nat} (hN : X.N.Nodup) (hc : X.calm = true := by rfl) (hi : X.N[i]? = some x := by rfl) (hj : X.N[j]? = some y := by rfl) (hx : Loc X.env.scope x := by first | exact Or.inl rfl | exact Or.inr rfl) (hy : Loc X.env.scope y := by first | exact Or.inl rfl | exact Or.inr rfl)
    (fx : X.fn x = true ∨ X.env.scope.names.lookup x = some .local := by first | exact .inl rfl | exact .inr rfl) (fy : X.fn y = true ∨ X.env.scope.names.lookup y = some .local := by first | exact .inl rfl | exact .inr rfl) :
    PG X (.Tuple [.Name x p1, .Name y p2] k p3) (gTup X.K 2 (gCons (gName i) (gCons (gName j) gNil))) :=
  pg_tup hc (pgs_cons (pg_name hN hi hx fx) (pgs_cons (pg_name hN hj hy fy) pgs_nil))
theorem rg2 {K : PySem.W.Frag} {i j : Nat} {d e : Dat} {N : Env' → OHp → Prop} (h : N ((Γ.set i (some d)).set j (some e)) O) : RG z K (gTup K 2 (gCons (gName i) (gCons (gName j) gNil))) (.tup [d, e]) Γ O N :=
  rg_tup rfl (rgs_cons (rg_name (rgs_cons (rg_name (rgs_nil h)))))
/-- a, b = x, y (plain local names) -/
theorem ws_par (i j : Nat) {x y : Str} {px py pt : Pos} {kt k2 : Nat} {pt2 : Pos} (h : WA z X [a, b] Γ O fun ds O1 => ∃ d e, ds = [d, e] ∧ E.nx ((Γ.set i (some d)).set j (some e)) O1) (hN : X.N.Nodup) (hc : X.calm = true := by rfl) (hi : X.N[i]? = some x := by rfl) (hj : X.N[j]? = some y := by rfl) (hij : i ≠ j := by decide)
    (hx : X.env.scope.names.lookup x = some .local := by rfl) (hy : X.env.scope.names.lookup y = some .local := by rfl)
    (hw : swappedStores [.Tuple [.Name x px, .Name y py] kt pt] (.Tuple [a, b] k2 pt2) X.env = pure (some [x, y]) := by rfl)
    (hs : swapsWithSole [.Tuple [.Name x px, .Name y py] kt pt] (.Tuple [a, b] k2 pt2) pos.line X.env = pure false := by rfl) :
    WS z X (.Assign [.Tuple [.Name x px, .Name y py] kt pt] (.Tuple [a, b] k2 pt2) pos) Γ O E := ws_of (ps_par hc hN hi hj hij hx hy pa_w hw hs) (rs_par h)
theorem ws_while {s1 : List Stmt} (hp : PassesOwn (model X.prog X.w) X.A X.env X.xe) (W : Nat → Env' → OHp → Prop) (m0 : Nat) (h0 : W m0 Γ O)
    (hs : ∀ m Γ1 O1, W m Γ1 O1 → WT z X c Γ1 O1 fun b O2 => (b = true → WSs z X s1 Γ1 O2 { E with nx := fun Γ3 O3 => ∃ m', m' < m ∧ W m' Γ3 O3, ct := fun Γ3 O3 => ∃ m', m' < m ∧ W m' Γ3 O3, bk := E.nx }) ∧ (b = false → E.nx Γ1 O2)) : WS z X (.While c s1 [] pos) Γ O E :=
  ws_of (ps_while hp pt_w pss_w) (rs_while W m0 h0 hs)
/-! ### for -/
theorem ws_for {s1 : List Stmt} {g : TG} (hp : PassesOwn (model X.prog X.w) X.A X.env X.xe) (pg : PG X tg g)
    (h : WI z X tg e Γ O fun n Y C O1 => ∃ W : Nat → Env' → OHp → Prop, W 0 Γ O1 ∧ (∀ i Γ' O', W i Γ' O' → C O') ∧
      (∀ i d Γ' O', i < n → W i Γ' O' → Y i d → RG z X.K g d Γ' O' fun Γ2 O2 => WSs z X s1 Γ2 O2 { E with nx := W (i + 1), ct := W (i + 1), bk := E.nx }) ∧ (∀ Γ' O', W n Γ' O' → E.nx Γ' O'))
    (hc : X.calm = true := by rfl) (hs : ∀ x, foldedSetIterable e X.env x = pure x := by intro _; rfl) : WS z X (.For tg e s1 [] pos) Γ O E :=
  ws_of (ps_for hp hc pi_w pg pss_w hs) (rs_for h)
/-! ### what is walked -/
variable {F : Nat → (Nat → Dat → Prop) → (OHp → Prop) → OHp → Prop}
theorem wi_list (h : WD z X e Γ O fun d O1 => ∃ ds, Sees O1 d ds ∧ F ds.length (fun i d => ds[i]? = some d) (fun O' => Sees O' d ds) O1) : WI z X tg e Γ O F :=
  wi_of (pi_list pe_w) fun σ H H0 Q st en k => h σ H H0 _ st en fun v d H1 O1 HH s r ⟨ds, se, φ⟩ => by
    obtain ⟨a, vs, e, hq, rr⟩ := se.at s.s r
    have up : ∀ {H2 : Hp} {O2 : OHp} {HH2 : Hp}, z.At X.K H2 O2 HH2 → Same H1 H2 → Sees O2 d ds → ∃ vs, HH2 a = some (.lst vs) ∧ rps X.K H2 ds vs := fun st2 sm c => by
      obtain ⟨a', vs', e', hq', rr'⟩ := c.at st2.s (rp_mono sm _ _ r)
      rw [e] at e'; cases e'
      exact ⟨vs', hq', rr'⟩
    refine ⟨a, e, ⟨vs, .of hq⟩, k _ _ _ _ _ _ _ s ⟨fun i H2 O2 HH2 st2 sm c hi => ?_, fun i H2 O2 HH2 st2 sm c hi => ?_, fun i H2 O2 HH2 x H' st2 sm c hi y => ?_⟩ φ⟩
    · obtain ⟨vs', hq', rr'⟩ := up st2 sm c
      exact ⟨vs', .of hq', by rw [rps_len rr']; exact hi⟩
    · obtain ⟨vs', hq', rr'⟩ := up st2 sm c
      have hl := rps_len rr'
      exact ⟨vs', vs'[i]'(by omega), .of hq', List.getElem?_eq_getElem (by omega)⟩
    · obtain ⟨vs', hq', rr'⟩ := up st2 sm c
      obtain ⟨e1, y⟩ := y
      obtain ⟨d2, e2, r2⟩ := rps_get' rr' (y _ (.of hq'))
      rw [e1]
      exact ⟨H2, d2, st2.s.refl, r2, e2⟩
theorem wi_tup (h : WD z X e Γ O fun d O1 => ∃ ds, d = .tup ds ∧ F ds.length (fun i d => ds[i]? = some d) (fun _ => True) O1) : WI z X tg e Γ O F :=
  wi_of (pi_tup pe_w) fun σ H H0 Q st en k => h σ H H0 _ st en fun v d H1 O1 HH s r ⟨ds, se, φ⟩ => by
    subst se
    obtain ⟨a, vs, e, hq, rr⟩ := r
    have hl := rps_len rr
    refine ⟨a, e, ⟨vs, SqT.of (s.s.k _ _ hq)⟩, k _ _ _ _ _ _ _ s ⟨fun i H2 O2 HH2 st2 sm c hi => ⟨vs, SqT.of ((sm.trans st2.s.k) _ _ hq), by omega⟩, fun i H2 O2 HH2 st2 sm c hi => ⟨vs, vs[i]'(by omega), SqT.of ((sm.trans st2.s.k) _ _ hq), List.getElem?_eq_getElem (by omega)⟩, fun i H2 O2 HH2 x H' st2 sm c hi y => ?_⟩ φ⟩
    obtain ⟨e1, y⟩ := y
    obtain ⟨d2, e2, r2⟩ := rps_get' (rps_mono sm _ _ rr) (y _ (SqT.of ((sm.trans st2.s.k) _ _ hq)))
    rw [e1]
    exact ⟨H2, d2, st2.s.refl, r2, e2⟩
/-- a new pair -/
theorem pair_new {K : PySem.W.Frag} {H0 H : Hp} {d1 d2 : Dat} {x y : V} {t : Addr} (st : StOk z.T K H0 O H) (r1 : rp K H0 d1 x) (r2 : rp K H0 d2 y) (ht : H t = none) : ∃ H0', Step z.T K H0 O H H0' O (upd H t (.tup [x, y])) ∧ rp K H0' (.tup [d1, d2]) (.ref t) := by
  have s := st.new (o := .tup [x, y]) ht (fun ps q => by cases q)
  exact ⟨_, s, t, [x, y], rfl, upd_same, rps_mono s.k _ _ (rps_cons r1 (rps_one r2))⟩
theorem wi_enumL {p tpos : Pos} {elts : List Expr} {kk : Nat} (hm : X.mg "enumerate" = none) (h : WD z X e Γ O fun d O1 => ∃ ds, Sees O1 d ds ∧ F ds.length (fun i d => ∃ x, ds[i]? = some x ∧ d = .tup [I (i : Nat), x]) (fun O' => Sees O' d ds) O1)
    (hg : Gl X "enumerate" := by rfl) (hs : starEach [e] X.env = [(false, eval e X.env)] := by rfl) : WI z X (.Tuple elts kk tpos) (.Call (.Name "enumerate" p) [e] [] pos) Γ O F :=
  wi_of (pi_enum hg hm (pa_cons pe_w pa_nil hs) hs) fun σ H H0 Q st en k => h σ H H0 _ st en fun v d H1 O1 HH s r ⟨ds, se, φ⟩ => by
    obtain ⟨a, vs, e, hq, rr⟩ := se.at s.s r
    have up : ∀ {H2 : Hp} {O2 : OHp} {HH2 : Hp}, z.At X.K H2 O2 HH2 → Same H1 H2 → Sees O2 d ds → ∃ vs, HH2 a = some (.lst vs) ∧ rps X.K H2 ds vs := fun st2 sm c => by
      obtain ⟨a', vs', e', hq', rr'⟩ := c.at st2.s (rp_mono sm _ _ r)
      rw [e] at e'; cases e'
      exact ⟨vs', hq', rr'⟩
    refine ⟨a, vs, by rw [e], .of hq, k _ _ _ _ _ _ _ s ⟨fun i H2 O2 HH2 st2 sm c hi => ?_, fun i H2 O2 HH2 st2 sm c hi => ?_, fun i H2 O2 HH2 x H' st2 sm c hi y => ?_⟩ φ⟩
    · obtain ⟨vs', hq', rr'⟩ := up st2 sm c
      exact ⟨vs', .of hq', by rw [rps_len rr']; exact hi⟩
    · obtain ⟨vs', hq', rr'⟩ := up st2 sm c
      have hl := rps_len rr'
      exact ⟨vs', vs'[i]'(by omega), .of hq', List.getElem?_eq_getElem (by omega)⟩
    · obtain ⟨vs', hq', rr'⟩ := up st2 sm c
      obtain ⟨t, x, e1, ht, e2, y⟩ := y
      obtain ⟨d2, e3, r2⟩ := rps_get' rr' (y _ (.of hq'))
      subst e1 e2
      obtain ⟨H0', s', r'⟩ := pair_new (d1 := I (i : Nat)) st2.s rfl r2 ht
      exact ⟨H0', _, s', r', d2, e3, rfl⟩
theorem wi_enumT {p tpos : Pos} {elts : List Expr} {kk : Nat} (hm : X.mg "enumerate" = none) (h : WD z X e Γ O fun d O1 => ∃ ds, d = .tup ds ∧ F ds.length (fun i d => ∃ x, ds[i]? = some x ∧ d = .tup [I (i : Nat), x]) (fun _ => True) O1)
    (hg : Gl X "enumerate" := by rfl) (hs : starEach [e] X.env = [(false, eval e X.env)] := by rfl) : WI z X (.Tuple elts kk tpos) (.Call (.Name "enumerate" p) [e] [] pos) Γ O F :=
  wi_of (pi_num hg hm (pa_cons pe_w pa_nil hs) hs) fun σ H H0 Q st en k => h σ H H0 _ st en fun v d H1 O1 HH s r ⟨ds, se, φ⟩ => by
    subst se
    obtain ⟨a, vs, e, hq, rr⟩ := r
    have hl := rps_len rr
    have stand : ∀ {H2 HH2 : Hp} {O2 : OHp}, Same H1 H2 → z.At X.K H2 O2 HH2 → SqT X.K HH2 a vs := fun sm st2 => SqT.of (st2.s.k _ _ (sm _ _ hq))
    refine ⟨a, vs, by rw [e], SqT.of (s.s.k _ _ hq), k _ _ _ _ _ _ _ s ⟨fun i H2 O2 HH2 st2 sm c hi => ⟨stand sm st2, by omega⟩, fun i H2 O2 HH2 st2 sm c hi => ⟨stand sm st2, by omega⟩, fun i H2 O2 HH2 x H' st2 sm c hi y => ?_⟩ φ⟩
    obtain ⟨t, x, rfl, ht, hx, rfl⟩ := y
    obtain ⟨d2, e3, r2⟩ := rps_get' (rps_mono sm _ _ rr) hx
    obtain ⟨H0', s', r'⟩ := pair_new (d1 := I (i : Nat)) st2.s rfl r2 ht
    exact ⟨H0', _, s', r', d2, e3, rfl⟩
theorem wi_zipT {p tpos : Pos} {elts : List Expr} {kk : Nat} {e2 : Expr} (hm : X.mg "zip" = none) (h : WD z X e Γ O fun d1 O1 => WD z X e2 Γ O1 fun d2 O2 => ∃ ds es, d1 = .tup ds ∧ d2 = .tup es ∧ F (min ds.length es.length) (fun i d => ∃ x y, ds[i]? = some x ∧ es[i]? = some y ∧ d = .tup [x, y]) (fun _ => True) O2)
    (hg : Gl X "zip" := by rfl) (hs : starEach [e, e2] X.env = [(false, eval e X.env), (false, eval e2 X.env)] := by rfl) (hs2 : starEach [e2] X.env = [(false, eval e2 X.env)] := by rfl) : WI z X (.Tuple elts kk tpos) (.Call (.Name "zip" p) [e, e2] [] pos) Γ O F :=
  wi_of (RZ.pi_zipA hg hm (pa_cons pe_w (pa_cons pe_w pa_nil hs2) (by rw [hs, hs2])) (by rw [hs, hs2]) (by rw [hs2]; rfl)) fun σ H H0 Q st en k => h σ H H0 _ st en fun v1 d1 H1 O1 HH s1 r1 φ1 => φ1 σ HH H1 _ (st.trans s1) (en.mono s1.k) fun v2 d2 H2 O2 HH2 s2 r2 ⟨ds, es, e1, e2, φ⟩ => by
    subst e1 e2
    obtain ⟨a, vs, e1, hq1, rr1⟩ := rp_mono s2.k _ _ r1
    obtain ⟨b, us, e2, hq2, rr2⟩ := r2
    have hl1 := rps_len rr1
    have hl2 := rps_len rr2
    refine ⟨a, b, vs, us, by rw [e1, e2], .inr ⟨SqT.of (s2.s.k _ _ hq1), SqT.of (s2.s.k _ _ hq2), k _ _ _ _ _ _ _ (s1.trans s2) ⟨fun i H3 O3 HH3 st3 sm c hi => ?_, fun i H3 O3 HH3 st3 sm c hi => ?_, fun i H3 O3 HH3 x H' st3 sm c hi y => ?_⟩ φ⟩⟩
    · exact ⟨vs, us, SqT.of ((sm.trans st3.s.k) _ _ hq1), SqT.of ((sm.trans st3.s.k) _ _ hq2), by omega⟩
    · exact ⟨vs, us, vs[i]'(by omega), us[i]'(by omega), SqT.of ((sm.trans st3.s.k) _ _ hq1), SqT.of ((sm.trans st3.s.k) _ _ hq2), List.getElem?_eq_getElem (by omega), List.getElem?_eq_getElem (by omega)⟩
    · obtain ⟨t, x, w, q1, ht, q2, y1, y2⟩ := y
      obtain ⟨x2, e3, r3⟩ := rps_get' (rps_mono sm _ _ rr1) (y1 _ (SqT.of ((sm.trans st3.s.k) _ _ hq1)))
      obtain ⟨y2', e4, r4⟩ := rps_get' (rps_mono sm _ _ rr2) (y2 _ (SqT.of ((sm.trans st3.s.k) _ _ hq2)))
      subst q1 q2
      obtain ⟨H0', s', r'⟩ := pair_new st3.s r3 r4 ht
      exact ⟨H0', _, s', r', x2, y2', e3, e4, rfl⟩
theorem itr_ok {K : PySem.W.Frag} {Hb : Hp} {lo : Int} {n : Nat} : ItOk z K Hb (Itr lo n) n (fun i d => d = I (lo + (i : Nat))) (fun _ => True) :=
  ⟨fun i _ _ _ _ _ _ hi => hi, fun i _ _ _ _ _ _ hi => hi, fun i H0 O H x H' st _ _ hi y => ⟨H0, I (lo + (i : Nat)), by rw [y.1]; exact st.s.refl, y.2, rfl⟩⟩
theorem wi_range1 {p : Pos} (hm : X.mg "range" = none) (h : WD z X e Γ O fun d O1 => ∃ n : Int, d = I n ∧ n < 100000 ∧ -100000 < n ∧ F n.toNat (fun i d => d = I (0 + (i : Nat))) (fun _ => True) O1) (hg : Gl X "range" := by rfl) (hs : starEach [e] X.env = [(false, eval e X.env)] := by rfl) :
    WI z X tg (.Call (.Name "range" p) [e] [] pos) Γ O F :=
  wi_of (pi_range1 hg hm (pa_cons pe_w pa_nil hs) hs) fun σ H H0 Q st en k => h σ H H0 _ st en fun v d H1 O1 HH s r ⟨n, e, h1, h2, φ⟩ => by
    subst e
    have r : v = .int n := r
    exact ⟨n, by rw [r], by omega, by omega, k _ _ _ _ _ _ _ s itr_ok φ⟩
theorem wi_range2 {p : Pos} {e2 : Expr} (hm : X.mg "range" = none) (h : WD z X e Γ O fun d O1 => WD z X e2 Γ O1 fun d2 O2 => ∃ m n : Int, d = I m ∧ d2 = I n ∧ (n < 100000 ∧ -100000 < n ∧ m < 100000 ∧ -100000 < m) ∧ F (n - m).toNat (fun i d => d = I (m + (i : Nat))) (fun _ => True) O2) (hg : Gl X "range" := by rfl)
    (hs : starEach [e, e2] X.env = [(false, eval e X.env), (false, eval e2 X.env)] := by rfl) (hs2 : starEach [e2] X.env = [(false, eval e2 X.env)] := by rfl) : WI z X tg (.Call (.Name "range" p) [e, e2] [] pos) Γ O F :=
  wi_of (pi_range2 hg hm (pa_cons pe_w (pa_cons pe_w pa_nil hs2) (by rw [hs, hs2])) hs hs2) fun σ H H0 Q st en k => h σ H H0 _ st en fun v1 d1 H1 O1 HH s1 r1 φ1 => φ1 σ HH H1 _ (st.trans s1) (en.mono s1.k) fun v2 d2 H2 O2 HH2 s2 r2 ⟨m, n, e1, e2, ⟨h1, h2, h3, h4⟩, φ⟩ => by
    subst e1 e2
    have r1 : v1 = .int m := r1
    have r2 : v2 = .int n := r2
    exact ⟨m, n, by rw [r1, r2], ⟨by omega, by omega, by omega, by omega⟩, k _ _ _ _ _ _ _ (s1.trans s2) itr_ok φ⟩
end
end DL

set_option Elab.async false
set_option linter.all false
set_option maxRecDepth 100000
/-! DL4: comprehensions, defs, calls, subscripts, methods -/
namespace DL
open PySem PySem.Spec PyProof.Rows L2

/-! ### comprehensions -/
def WDb (z : En) (X : Cx) (scope : Scope) (e : Expr) (Γ : Env') (O : OHp) (Φ : Dat → OHp → Prop) : Prop :=
  ∀ (s0 : Shared) (H1 : Hp) (C : Addr) (cl : List (Str × Addr)) (fp : List Addr), WD z (X.blk s0 H1 scope (compEnvC scope cl C X.env) fp) e Γ O Φ
def WTb (z : En) (X : Cx) (scope : Scope) (ifs : List Expr) (Γ : Env') (O : OHp) (Ψ : Bool → OHp → Prop) : Prop :=
  ∀ (s0 : Shared) (H1 : Hp) (C : Addr) (cl : List (Str × Addr)) (fp : List Addr), WTs z (X.blk s0 H1 scope (compEnvC scope cl C X.env) fp) ifs Γ O Ψ
section
variable {z : En} {X : Cx} {e a b c o i elt tg iter : Expr} {es ifs : List Expr} {st : Stmt} {sts : List Stmt} {kws : List Keyword} {Γ : Env'} {O : OHp} {Φ : Dat → OHp → Prop} {Ψ : Bool → OHp → Prop} {Θ : List Dat → OHp → Prop} {E : EnD} {pos : Pos} {scope : Scope} {own : List (Str × Nat)}
def LcW (z : En) (X : Cx) (scope : Scope) (own : List (Str × Nat)) (elt : Expr) (ifs : List Expr) (g : TG) (Γ : Env') (Φ : Dat → OHp → Prop) (n : Nat) (Y : Nat → Dat → Prop) (C : OHp → Prop) (O1 : OHp) : Prop :=
  n ≤ 100000 ∧ ∃ W : Nat → List Dat → OHp → Prop, W 0 [] O1 ∧ (∀ i acc O', W i acc O' → C O') ∧
      (∀ i d acc O', i < n → W i acc O' → Y i d → RG z X.K g d (wipeE Γ (own.map (·.2))) O' fun Γ2 O2 => WTb z X scope ifs Γ2 O2 fun b O3 => (b = true → WDb z X scope elt Γ2 O3 fun y O4 => W (i + 1) (acc ++ [y]) O4) ∧ (b = false → W (i + 1) acc O3)) ∧
      (∀ acc O', W n acc O' → NewL O' acc Φ)
/-- [elt for x in iter if ..] -/
theorem wd_lc (own : List (Str × Nat)) (g : TG) (gw : GWipe g (own.map (·.2))) (hN : X.N.Nodup) (ok : BlkOk X.N X.env.scope scope own)
    (hg : ∀ (s : Shared) (H : Hp) (C : Addr) (cl : List (Str × Addr)) (fp : List Addr), PG (X.blk s H scope (compEnvC scope cl C X.env) fp) tg g)
    (h : WI z X tg iter Γ O fun n Y C O1 => LcW z X scope own elt ifs g Γ Φ n Y C O1)
    (hc : X.calm = true := by rfl) (hs : ∀ x, foldedSetIterable iter X.env x = pure x := by intro _; rfl) : WD z X (.ListComp elt [⟨tg, iter, ifs, 0⟩] scope pos) Γ O Φ :=
  wd_of (pe_lc (own := own) (g := g) (te := fun σ H Q => ∀ (s0 : Shared) (H1 : Hp) (C : Addr) (cl : List (Str × Addr)) (fp : List Addr), wE (X.blk s0 H1 scope (compEnvC scope cl C X.env) fp) elt σ H Q)
      (tt := fun σ H Q => ∀ (s0 : Shared) (H1 : Hp) (C : Addr) (cl : List (Str × Addr)) (fp : List Addr), wTs (X.blk s0 H1 scope (compEnvC scope cl C X.env) fp) ifs σ H Q) hc hN pi_w ok hg
      (fun s H C cl fp => ⟨fun pins s' _ _ _ I q => (q s H C cl fp pins s' I).out⟩) (fun s H C cl fp => ⟨fun pins s' _ _ _ I q => (q s H C cl fp pins s' I).out⟩) hs)
    (rd_lc gw fun σ H H0 Q st en k => h σ H H0 Q st en fun J n Y C H1 O1 HH s it ⟨hn, W, w0, wc, turn, fin⟩ => k J n Y C H1 O1 HH s it ⟨hn, W, w0, wc, fun i d acc O' hi w y => fun σ2 H2 H02 v Q2 st2 en2 r2 k2 => turn i d acc O' hi w y σ2 H2 H02 v Q2 st2 en2 r2 fun σ3 Γ3 H3 O3 HH3 s3 en3 q3 => k2 σ3 Γ3 H3 O3 HH3 s3 en3
      fun σ4 H4 H04 Q4 st4 en4 k4 s0 H1' C cl fp => q3 s0 H1' C cl fp σ4 H4 H04 Q4 st4 en4 fun b H5 O5 HH5 s5 φ5 => k4 b H5 O5 HH5 s5 ⟨fun hb => fun σ6 H6 H06 Q6 st6 en6 k6 s0 H1' C cl fp => φ5.1 hb s0 H1' C cl fp σ6 H6 H06 Q6 st6 en6 k6, φ5.2⟩, fin⟩)
/-- y = [elt for x in iter if ..] -/
theorem ws_setLc (j : Nat) {y : Str} {py spos : Pos} (own : List (Str × Nat)) (g : TG) (gw : GWipe g (own.map (·.2))) (hN : X.N.Nodup) (ok : BlkOk X.N X.env.scope scope own)
    (hg : ∀ (s : Shared) (H : Hp) (C : Addr) (cl : List (Str × Addr)) (fp : List Addr), PG (X.blk s H scope (compEnvC scope cl C X.env) fp) tg g)
    (hsw : swapsWith (.ListComp elt [⟨tg, iter, ifs, 0⟩] scope pos) (some (.Name y py)) spos.line X.env = pure true)
    (h : WI z X tg iter Γ O fun n Y C O1 => LcW z X scope own elt ifs g Γ (fun d O2 => E.nx (Γ.set j (some d)) O2) n Y C O1)
    (hc : X.calm = true := by rfl) (hy : X.N[j]? = some y := by rfl) (hyl : X.env.scope.names.lookup y = some .local := by rfl) (hs : ∀ x, foldedSetIterable iter X.env x = pure x := by intro _; rfl) : WS z X (.Assign [.Name y py] (.ListComp elt [⟨tg, iter, ifs, 0⟩] scope pos) spos) Γ O E :=
  ws_of (ps_setLc (i := j) (own := own) (g := g) (te := fun σ H Q => ∀ (s0 : Shared) (H1 : Hp) (C : Addr) (cl : List (Str × Addr)) (fp : List Addr), wE (X.blk s0 H1 scope (compEnvC scope cl C X.env) fp) elt σ H Q)
      (tt := fun σ H Q => ∀ (s0 : Shared) (H1 : Hp) (C : Addr) (cl : List (Str × Addr)) (fp : List Addr), wTs (X.blk s0 H1 scope (compEnvC scope cl C X.env) fp) ifs σ H Q) hc hN hy hyl hsw pi_w ok hg
      (fun s H C cl fp => ⟨fun pins s' _ _ _ I q => (q s H C cl fp pins s' I).out⟩) (fun s H C cl fp => ⟨fun pins s' _ _ _ I q => (q s H C cl fp pins s' I).out⟩) hs)
    (rs_asg (rd_imp (Φ' := fun d O2 => E.nx (Γ.set j (some d)) O2) (rd_lc gw fun σ H H0 Q st en k => h σ H H0 Q st en fun J n Y C H1 O1 HH s it ⟨hn, W, w0, wc, turn, fin⟩ => k J n Y C H1 O1 HH s it ⟨hn, W, w0, wc, fun i d acc O' hi w y => fun σ2 H2 H02 v Q2 st2 en2 r2 k2 => turn i d acc O' hi w y σ2 H2 H02 v Q2 st2 en2 r2 fun σ3 Γ3 H3 O3 HH3 s3 en3 q3 => k2 σ3 Γ3 H3 O3 HH3 s3 en3
      fun σ4 H4 H04 Q4 st4 en4 k4 s0 H1' C cl fp => q3 s0 H1' C cl fp σ4 H4 H04 Q4 st4 en4 fun b H5 O5 HH5 s5 φ5 => k4 b H5 O5 HH5 s5 ⟨fun hb => fun σ6 H6 H06 Q6 st6 en6 k6 s0 H1' C cl fp => φ5.1 hb s0 H1' C cl fp σ6 H6 H06 Q6 st6 en6 k6, φ5.2⟩, fin⟩) fun d O2 q => rg_name q))
theorem wts_nil (h : Ψ true O) : WTs z X [] Γ O Ψ := wts_of pts_nil fun σ H H0 Q st en k => k true _ _ _ st.s.refl h
theorem wts_one (h : WT z X c Γ O Ψ) : WTs z X [c] Γ O Ψ := wts_of (pts_one pt_w) h
end

/-! ### defs -/
abbrev DSp := List Dat → OHp → (Dat → OHp → Prop) → (Addr → Dat → OHp → Prop) → Prop
def lift (T : List (Addr × Str)) (K : PySem.W.Frag) (dsp : DSp) : Sp := fun vs H Q E => ∃ H0 O ds Φ Ψ, StOk T K H0 O H ∧ rps K H0 ds vs ∧ dsp ds O Φ Ψ ∧ (∀ v d H0' O' H', Step T K H0 O H H0' O' H' → rp K H0' d v → Φ d O' → Q v H') ∧
  ∀ C d x xd H0' O' H', Step T K H0 O H H0' O' H' → H' d = some (.xd [("at", x)]) → rp K H0' xd x → Ψ C xd O' → E (.ref C) (some d) H'
/-- what a def may hand back: less owned; an owned list, known from then on -/
def Ret (Φ : Dat → OHp → Prop) (d : Dat) (O : OHp) : Prop := (∃ O', Sub O' O ∧ Φ d O') ∨ ∃ p ds O', d = R p ∧ O p = some (.lst ds) ∧ Sub O' (del O p) ∧ Φ (.lst ds) O'
theorem Ret.same {Φ : Dat → OHp → Prop} {d : Dat} {O : OHp} (h : Φ d O) : Ret Φ d O := .inl ⟨O, .refl O, h⟩
def startE (N : List Str) (ds : List Dat) : Env' := ds.map some ++ List.replicate (N.length - ds.length) none
theorem start_env {K : PySem.W.Frag} {H0 : Hp} {N : List Str} {ds : List Dat} {vs : List V} (r : rps K H0 ds vs) : envR K H0 (startE N ds) (L2.start N vs) := by
  have hl := rps_len r
  refine ⟨by unfold L2.start startE; simp [hl], fun i d g => ?_⟩
  unfold startE at g
  unfold L2.start
  by_cases hi : i < ds.length
  · rw [List.getElem?_append_left (by simpa using hi), List.getElem?_map] at g
    rw [List.getElem?_append_left (by simpa [hl] using hi), List.getElem?_map]
    cases q : ds[i]? with
    | none => rw [q] at g; cases g
    | some d' =>
      rw [q] at g
      have g : some (some d') = some (some d) := g
      cases g
      obtain ⟨x, e, rx⟩ := rps_get r q
      exact ⟨x, by rw [e]; rfl, rx⟩
  · rw [List.getElem?_append_right (by simpa using hi), List.getElem?_replicate] at g
    split at g <;> cases g
/-- a def as it is called -/
structure Cal (P : Program) (w : World) (K : PySem.W.Frag) (mg : Str → Option Value) (base : Heap) (T : List (Addr × Str)) (CX : CXT) (x : Str) (k : Nat) (ps : List Str) (dsp : DSp) : Prop where
  ex : ∃ f fd, FnOk P w K mg base CX k f fd ps (lift T K dsp) ∧ mg x = some (.ref f) ∧ PySem.W.keepIn K (.ref f) = true ∧ Binds K fd ps []
theorem Cal.mono {P : Program} {w : World} {K : PySem.W.Frag} {mg : Str → Option Value} {base : Heap} {T : List (Addr × Str)} {CX : CXT} {x : Str} {j k : Nat} {ps : List Str} {dsp : DSp} (c : Cal P w K mg base T CX x j ps dsp) (h : j ≤ k) : Cal P w K mg base T CX x k ps dsp := by
  obtain ⟨f, fd, F, a, b, c⟩ := c.ex
  exact ⟨f, fd, F.mono h, a, b, c⟩
theorem Cal.imp {P : Program} {w : World} {K : PySem.W.Frag} {mg : Str → Option Value} {base : Heap} {T : List (Addr × Str)} {CX : CXT} {x : Str} {k : Nat} {ps : List Str} {dsp dsp' : DSp} (c : Cal P w K mg base T CX x k ps dsp) (h : ∀ ds O Φ Ψ, dsp' ds O Φ Ψ → dsp ds O Φ Ψ) : Cal P w K mg base T CX x k ps dsp' := by
  obtain ⟨f, fd, F, a, b, c⟩ := c.ex
  exact ⟨f, fd, F.imp fun vs H Q E ⟨H0, O, ds, Φ, Ψ, s, r, q, k1, k2⟩ => ⟨H0, O, ds, Φ, Ψ, s, r, h _ _ _ _ q, k1, k2⟩, a, b, c⟩
section
variable {P : Program} {w : World} {K : PySem.W.Frag} {mg : Str → Option Value} {base : Heap} {T : List (Addr × Str)}
/-- a def that raises nothing -/
theorem fnOkD {x qual : Str} {st : Stmt} {f : Addr} {fd : FuncData} {N ps : List Str} {k : Nat} {dsp : DSp} (F : Fun K x qual st f fd) (Sc : FnScope N ps (defScope st)) (len : ∀ ds O Φ Ψ, dsp ds O Φ Ψ → ds.length = ps.length)
    (body : ∀ (cdv : Value) (A : Around) (outer : List Env) (s : Shared) (H : Hp) (E : XK) (H0 : Hp) (O : OHp) (ds : List Dat) Φ Ψ, Room k (A.deeper (envOfC qual (defScope st) s.heap.objs.size f cdv)) → dsp ds O Φ Ψ →
      WSs ⟨T, H0, O, H⟩ (cxOf CX0 P w K mg base N qual (defScope st) f cdv A outer s H E).nox (defBody st) (startE N ds) O { nx := fun _ O' => Ret Φ (.v .non) O', rt := Ret Φ }) : FnOk P w K mg base CX0 (k + 1) f fd ps (lift T K dsp) :=
  F.ok Sc (fun vs H Q E ⟨H0, O, ds, Φ, Ψ, s, r, h, _⟩ => (rps_len r).trans (len _ _ _ _ h)) fun cdv A outer s H vs Q E hr ⟨H0, O, ds, Φ, Ψ, so, r, h, k1, k2⟩ => ⟨_, pss_w, by
    have fin : ∀ v d H0' O' H', Step T K H0 O H H0' O' H' → rp K H0' d v → Ret Φ d O' → Q v H' := fun v d H0' O' H' s' r' q => by
      rcases q with ⟨O'', sb, φ⟩ | ⟨p, ds, O'', e, ho, sb, φ⟩
      · exact k1 v d H0' O'' H' (s'.trans (s'.s.forget sb)) r' φ
      · subst e
        have e : v = .ref p := r'
        subst e
        obtain ⟨H2, s2, r2⟩ := s'.s.freeze ho
        exact k1 _ _ H2 O'' H' ((s'.trans s2).trans (s2.s.forget sb)) r2 φ
    exact body cdv A outer s H E H0 O ds Φ Ψ hr h (L2.start N vs) H H0 _ so.refl (start_env r) ⟨fun σ' Γ' H0' O' H' s' e' q => fin _ (.v .non) _ _ _ s' rfl q, fun v d H0' O' H' s' r' q => fin _ _ _ _ _ s' r' q, fun _ _ _ _ _ _ _ q => q.elim, fun _ _ _ _ _ _ _ q => q.elim⟩⟩
/-- how a raise is wished for -/
def Lk (z : En) (K : PySem.W.Frag) (E : XK) (Ψ : Addr → Dat → OHp → Prop) : Prop := ∀ C d x xd H0' O' H', z.At K H0' O' H' → H' d = some (.xd [("at", x)]) → rp K H0' xd x → Ψ C xd O' → E (.ref C) (some d) H'
/-- a def that may raise -/
theorem fnOkX {x qual : Str} {st : Stmt} {f : Addr} {fd : FuncData} {N ps : List Str} {k : Nat} {dsp : DSp} (F : Fun K x qual st f fd) (Sc : FnScope N ps (defScope st)) (len : ∀ ds O Φ Ψ, dsp ds O Φ Ψ → ds.length = ps.length)
    (body : ∀ (cdv : Value) (A : Around) (outer : List Env) (s : Shared) (H : Hp) (E : XK) (H0 : Hp) (O : OHp) (ds : List Dat) Φ Ψ, Room k (A.deeper (envOfC qual (defScope st) s.heap.objs.size f cdv)) → dsp ds O Φ Ψ → Lk ⟨T, H0, O, H⟩ K E Ψ →
      WSs ⟨T, H0, O, H⟩ (cxOf (L2.CX P w) P w K mg base N qual (defScope st) f cdv A outer s H E) (defBody st) (startE N ds) O { nx := fun _ O' => Ret Φ (.v .non) O', rt := Ret Φ }) : FnOk P w K mg base (L2.CX P w) (k + 1) f fd ps (lift T K dsp) :=
  F.okX Sc (fun vs H Q E ⟨H0, O, ds, Φ, Ψ, s, r, h, _⟩ => (rps_len r).trans (len _ _ _ _ h)) fun cdv A outer s H vs Q E hr ⟨H0, O, ds, Φ, Ψ, so, r, h, k1, k2⟩ => ⟨_, pss_w, by
    have fin : ∀ v d H0' O' H', Step T K H0 O H H0' O' H' → rp K H0' d v → Ret Φ d O' → Q v H' := fun v d H0' O' H' s' r' q => by
      rcases q with ⟨O'', sb, φ⟩ | ⟨p, ds, O'', e, ho, sb, φ⟩
      · exact k1 v d H0' O'' H' (s'.trans (s'.s.forget sb)) r' φ
      · subst e
        have e : v = .ref p := r'
        subst e
        obtain ⟨H2, s2, r2⟩ := s'.s.freeze ho
        exact k1 _ _ H2 O'' H' ((s'.trans s2).trans (s2.s.forget sb)) r2 φ
    exact body cdv A outer s H E H0 O ds Φ Ψ hr h (fun C d x xd H0' O' H' a b c q => k2 C d x xd H0' O' H' a b c q) (L2.start N vs) H H0 _ so.refl (start_env r) ⟨fun σ' Γ' H0' O' H' s' e' q => fin _ (.v .non) _ _ _ s' rfl q, fun v d H0' O' H' s' r' q => fin _ _ _ _ _ s' r' q, fun _ _ _ _ _ _ _ q => q.elim, fun _ _ _ _ _ _ _ q => q.elim⟩⟩
end
section
variable {z : En} {X : Cx} {e a b c o i elt tg iter : Expr} {es ifs : List Expr} {st : Stmt} {sts : List Stmt} {kws : List Keyword} {Γ : Env'} {O : OHp} {Φ : Dat → OHp → Prop} {Ψ : Bool → OHp → Prop} {Θ : List Dat → OHp → Prop} {E : EnD} {pos : Pos}
/-- f(..) -/
theorem wd_call {x : Str} {p : Pos} {k : Nat} {ps : List Str} {dsp : DSp} (G : Cal X.prog X.w X.K X.mg X.base z.T CX0 x k ps dsp) (hr : Room k X.A) (h : WA z X (e :: es) Γ O fun ds O1 => dsp ds O1 Φ fun _ _ _ => False)
    (hg : Gl X x := by rfl) (hdb : (x == ("__debug__" : Str)) = false := by decide) (hs : starEach (e :: es) X.env = (false, eval e X.env) :: starEach es X.env := by rfl) (hpl : (backTo pos (starEach es X.env)).any (·.1) = false := by rfl) : WD z X (.Call (.Name x p) (e :: es) [] pos) Γ O Φ := by
  obtain ⟨f, fd, F, hm, hk, hb⟩ := G.ex
  refine wd_of (pe_call F hr hg hm hk hb .nil pass0 pa_w hdb hs hpl) fun σ H H0 Q st en k => h σ H H0 _ st en fun vs ds H1 O1 HH s r φ => ?_
  show lift z.T X.K dsp (vs ++ []) HH Q E0
  rw [List.append_nil]
  exact ⟨H1, O1, ds, Φ, _, s.s, r, φ, fun v d H2 O2 HH2 s' r' q => k v d H2 O2 HH2 (s.trans s') r' q, fun _ _ _ _ _ _ _ _ _ _ q => q.elim⟩
/-- f(..) that may raise, E: what is wished -/
theorem wd_callX {x : Str} {p : Pos} {k : Nat} {ps : List Str} {dsp : DSp} {Ξ : Addr → Dat → OHp → Prop} {EX : XK} (G : Cal X.prog X.w X.K X.mg X.base z.T (L2.CX X.prog X.w) x k ps dsp) (hr : Room k X.A) (hx : Passes (L2.CX X.prog X.w) X EX) (lk : Lk z X.K EX Ξ) (h : WA z X (e :: es) Γ O fun ds O1 => dsp ds O1 Φ Ξ)
    (hg : Gl X x := by rfl) (hdb : (x == ("__debug__" : Str)) = false := by decide) (hs : starEach (e :: es) X.env = (false, eval e X.env) :: starEach es X.env := by rfl) (hpl : (backTo pos (starEach es X.env)).any (·.1) = false := by rfl) : WD z X (.Call (.Name x p) (e :: es) [] pos) Γ O Φ := by
  obtain ⟨f, fd, F, hm, hk, hb⟩ := G.ex
  refine wd_of (pe_call F hr hg hm hk hb .nil hx pa_w hdb hs hpl) fun σ H H0 Q st en k => h σ H H0 _ st en fun vs ds H1 O1 HH s r φ => ?_
  show lift z.T X.K dsp (vs ++ []) HH Q EX
  rw [List.append_nil]
  exact ⟨H1, O1, ds, Φ, Ξ, s.s, r, φ, fun v d H2 O2 HH2 s' r' q => k v d H2 O2 HH2 (s.trans s') r' q, fun C d x xd H0' O' H' s' a b q => lk C d x xd H0' O' H' ((st.trans s).trans s') a b q⟩
/-! ### built-ins by name -/
theorem wd_callB {x : Str} {p : Pos} {id : String} {r : List V → Hp → VK → Prop} (hc : CallR X (.builtin id) r) (hm : X.mg x = none) (hv : bootBuiltins x = some (.builtin id)) (h : WA z X (e :: es) Γ O fun ds O1 => RC z X.K r ds O1 Φ)
    (hg : Gl X x := by rfl) (hn : x ≠ "__name__" := by decide) (hdb : (x == ("__debug__" : Str)) = false := by decide) (hs : starEach (e :: es) X.env = (false, eval e X.env) :: starEach es X.env := by rfl) (hpl : (backTo pos (starEach es X.env)).any (·.1) = false := by rfl) : WD z X (.Call (.Name x p) (e :: es) [] pos) Γ O Φ :=
  wd_of (pe_callB hc hg hm hv pa_w hn hdb hs hpl) (rd_cb h)
theorem wd_callTy {x : Str} {p : Pos} {T : String} {r : List V → Hp → VK → Prop} (hc : CallR X (.type T) r) (hm : X.mg x = none) (hv : bootBuiltins x = some (.type T)) (h : WA z X (e :: es) Γ O fun ds O1 => RC z X.K r ds O1 Φ)
    (hg : Gl X x := by rfl) (hn : x ≠ "__name__" := by decide) (hdb : (x == ("__debug__" : Str)) = false := by decide) (hs : starEach (e :: es) X.env = (false, eval e X.env) :: starEach es X.env := by rfl) (hpl : (backTo pos (starEach es X.env)).any (·.1) = false := by rfl) : WD z X (.Call (.Name x p) (e :: es) [] pos) Γ O Φ :=
  wd_of (pe_callTy hc hg hm hv pa_w hn hdb hs hpl) (rd_cb h)
/-! ### subscripts, slices -/
theorem wd_ix {r : R2} (hr : IxR X r) (h : WD z X a Γ O fun d1 O1 => WD z X b Γ O1 fun d2 O2 => RR z X.K r d1 d2 O2 Φ) (hs : PlainIx b := by exact fun _ _ => rfl) : WD z X (.Subscript a b pos) Γ O Φ := wd_of (pe_ix hr pe_w pe_w hs) (rd_op h)
def RO (z : En) (K : PySem.W.Frag) (t : TO) (Γ : Env') (O : OHp) (F : Option Int → OHp → Prop) : Prop := ∀ σ H H0 Q, z.At K H0 O H → envR K H0 Γ σ → (∀ o H0' O' H', Step z.T K H0 O H H0' O' H' → F o O' → Q o H') → t σ H Q
def WO (z : En) (X : Cx) (e : Option Expr) (Γ : Env') (O : OHp) (F : Option Int → OHp → Prop) : Prop := match e with
  | none => F none O
  | some e => WD z X e Γ O fun d O1 => ∃ i, d = I i ∧ F (some i) O1
def wO (X : Cx) : Option Expr → TO
  | none => tNoPart
  | some e => tPart (wE X e)
theorem po_w {e : Option Expr} : PO X e (wO X e) := by
  cases e with
  | none => exact po_none
  | some e => exact po_some pe_w
theorem ro_w {e : Option Expr} {F : Option Int → OHp → Prop} (h : WO z X e Γ O F) : RO z X.K (wO X e) Γ O F := by
  cases e with
  | none => exact fun σ H H0 Q st en k => k none _ _ _ st.s.refl h
  | some e => exact fun σ H H0 Q st en k => h σ H H0 _ st en fun v d H1 O1 HH s r ⟨i, e, φ⟩ => by subst e; exact ⟨i, r, k _ _ _ _ s φ⟩
def RSl (z : En) (K : PySem.W.Frag) (r : V → Option Int → Option Int → Hp → VK → Prop) (d : Dat) (lo hi : Option Int) (O : OHp) (Φ : Dat → OHp → Prop) : Prop := ∀ H H0 v Q, z.At K H0 O H → rp K H0 d v → Kt z K H0 O H Φ Q → r v lo hi H Q
theorem wd_slice {lo hi : Option Expr} {p2 : Pos} {r : V → Option Int → Option Int → Hp → VK → Prop} (hr : SlR X r) (h : WD z X a Γ O fun d O1 => WO z X lo Γ O1 fun l O2 => WO z X hi Γ O2 fun u O3 => RSl z X.K r d l u O3 Φ) : WD z X (.Subscript a (.Slice lo hi none p2) pos) Γ O Φ :=
  wd_of (pe_slice hr pe_w po_w po_w) fun σ H H0 Q st en k => h σ H H0 _ st en fun v d H1 O1 HH s1 r1 φ1 => ro_w φ1 σ HH H1 _ (st.trans s1) (en.mono s1.k) fun l H2 O2 HH2 s2 φ2 => ro_w φ2 σ HH2 H2 _ ((st.trans s1).trans s2) (en.mono (s1.k.trans s2.k)) fun u H3 O3 HH3 s3 φ3 =>
    φ3 HH3 H3 v Q (((st.trans s1).trans s2).trans s3) (rp_mono (s2.k.trans s3.k) _ _ r1) (k.step ((s1.trans s2).trans s3))
theorem wo_none {F : Option Int → OHp → Prop} (h : F none O) : WO z X none Γ O F := h
theorem wo_some {F : Option Int → OHp → Prop} (h : WD z X e Γ O fun d O1 => ∃ i, d = I i ∧ F (some i) O1) : WO z X (some e) Γ O F := h
/-! ### attributes -/
theorem wd_fld {f : Str} (h : WD z X e Γ O fun d O1 => ∃ C ns ds y, d = .ins C ns ds ∧ Cls X.K C ∧ NoAttr X.K C f ∧ (ns.zip ds).lookup f = some y ∧ Φ y O1) (hb : attributeBase e f X.env (eval e X.env) = eval e X.env := by rfl) : WD z X (.Attribute e f pos) Γ O Φ :=
  wd_of (pe_fld pe_w hb) fun σ H H0 Q st en k => h σ H H0 _ st en fun v d H1 O1 HH s r ⟨C, ns, ds, y, e, c1, c2, hl, φ⟩ => by
    subst e
    obtain ⟨a, dx, vs, e1, h1, h2, h3⟩ := r
    have look : ∀ (ns : List Str) (ds : List Dat) (vs : List V), rps X.K H1 ds vs → (ns.zip ds).lookup f = some y → ∃ x, (ns.zip vs).lookup f = some x ∧ rp X.K H1 y x := by
      intro ns
      induction ns with
      | nil => intro ds vs _ q; simp at q
      | cons n ns ih =>
        intro ds vs rr q
        cases ds with
        | nil => simp at q
        | cons d ds =>
          obtain ⟨x, r, e, r1, r2⟩ := rr
          subst e
          simp only [List.zip_cons_cons, List.lookup_cons] at q ⊢
          split
          · rename_i q2
            rw [q2] at q
            cases q
            exact ⟨x, rfl, r1⟩
          · rename_i q2
            rw [q2] at q
            exact ih ds r r2 q
    obtain ⟨x, hx, rx⟩ := look ns ds vs h2 hl
    exact ⟨a, C, dx, _, x, e1, s.s.k _ _ h1, c1, c2, hx, k x y H1 O1 HH s rx φ⟩
/-! ### methods of lists -/
theorem wd_append {apos : Pos} (h : WD z X o Γ O fun d O1 => ∃ p, d = R p ∧ (∃ ds, O1 p = some (.lst ds)) ∧ WD z X e Γ O1 fun y O2 => ∃ ds, O2 p = some (.lst ds) ∧ ds.length < 100000 ∧ Φ N (put O2 p (.lst (ds ++ [y]))))
    (hbase : attributeBase o "append" X.env (eval o X.env) = eval o X.env := by rfl) (hline : (apos.endLine == pos.line) = true := by rfl) (hs : starEach (e :: []) X.env = (false, eval e X.env) :: starEach [] X.env := by rfl) : WD z X (.Call (.Attribute o "append" apos) [e] [] pos) Γ O Φ :=
  wd_of (pe_bm PySem.F.plainAttrs_list PySem.F.slot_list_append PySem.F.type_list_append mt_append pe_w (pa_cons pe_w pa_nil hs) hbase (by rw [hs]; rfl) hline hs) fun σ H H0 Q st en k => h σ H H0 _ st en fun v d H1 O1 HH s1 r1 ⟨p, e1, ⟨ds0, ho0⟩, φ⟩ => by
    subst e1
    have r1 : v = .ref p := r1
    subst r1
    obtain ⟨_, _, q1, vs0, q2, _⟩ := s1.s.o p _ ho0
    subst q2
    refine ⟨.inl ⟨rfl, _, .of q1⟩, φ σ HH H1 _ (st.trans s1) (en.mono s1.k) fun y dy H2 O2 HH2 s2 r2 ⟨ds, ho, hl, φ2⟩ => ?_⟩
    obtain ⟨_, _, w1, vs, w2, w3⟩ := s2.s.o p _ ho
    subst w2
    have hlen := rps_len w3
    exact ⟨p, vs, y, rfl, rfl, w1, Nat.lt_of_lt_of_le (by rw [hlen]; exact hl) (by decide), k _ N _ _ _ ((s1.trans s2).trans (s2.s.write (od' := .lst (ds ++ [dy])) ho ⟨_, rfl, rps_append w3 (rps_one r2)⟩)) rfl φ2⟩
theorem wd_pop {apos : Pos} (h : WD z X o Γ O fun d O1 => ∃ p ds y, d = R p ∧ O1 p = some (.lst ds) ∧ ds[ds.length - 1]? = some y ∧ Φ y (put O1 p (.lst ds.dropLast)))
    (hbase : attributeBase o "pop" X.env (eval o X.env) = eval o X.env := by rfl) (hline : (apos.endLine == pos.line) = true := by rfl) : WD z X (.Call (.Attribute o "pop" apos) [] [] pos) Γ O Φ :=
  wd_of (pe_bm0 PySem.F.plainAttrs_list PySem.F.slot_list_pop PySem.F.type_list_pop mt_pop pe_w hbase hline) fun σ H H0 Q st en k => h σ H H0 _ st en fun v d H1 O1 HH s1 r1 ⟨p, ds, y, e1, ho, hy, φ⟩ => by
    subst e1
    have r1 : v = .ref p := r1
    subst r1
    obtain ⟨_, _, w1, vs, w2, w3⟩ := s1.s.o p _ ho
    subst w2
    have hlen := rps_len w3
    obtain ⟨x, hx, rx⟩ := rps_get w3 hy
    refine ⟨.inl ⟨rfl, _, .of w1⟩, p, vs, x, rfl, rfl, w1, by rw [hlen]; exact hx, k _ y _ _ _ (s1.trans (s1.s.write (od' := .lst ds.dropLast) ho ⟨_, rfl, ?_⟩)) rx φ⟩
    rw [List.dropLast_eq_take, List.dropLast_eq_take, hlen]
    exact rps_take _ w3
theorem rps_erase {K : PySem.W.Frag} {H : Hp} : ∀ (n : Nat) {ds : List Dat} {vs : List V}, rps K H ds vs → rps K H (ds.eraseIdx n) (vs.eraseIdx n)
  | 0, [], _, h => by have h : _ = [] := h; rw [h]; rfl
  | 0, d :: ds, _, ⟨x, r, e, h1, h2⟩ => by rw [e]; exact h2
  | n + 1, [], _, h => by have h : _ = [] := h; rw [h]; rfl
  | n + 1, d :: ds, _, ⟨x, r, e, h1, h2⟩ => by rw [e]; exact ⟨x, _, rfl, h1, rps_erase n h2⟩
theorem wd_popAt {apos : Pos} (h : WD z X o Γ O fun d O1 => ∃ p, d = R p ∧ (∃ ds, O1 p = some (.lst ds)) ∧ WD z X e Γ O1 fun y O2 => ∃ (j : Nat) (ds : List Dat) (w : Dat), y = I (j : Int) ∧ O2 p = some (.lst ds) ∧ ds.length < 100000 ∧ ds[j]? = some w ∧ Φ w (put O2 p (.lst (ds.eraseIdx j))))
    (hbase : attributeBase o "pop" X.env (eval o X.env) = eval o X.env := by rfl) (hline : (apos.endLine == pos.line) = true := by rfl) (hs : starEach (e :: []) X.env = (false, eval e X.env) :: starEach [] X.env := by rfl) : WD z X (.Call (.Attribute o "pop" apos) [e] [] pos) Γ O Φ :=
  wd_of (pe_bm PySem.F.plainAttrs_list PySem.F.slot_list_pop PySem.F.type_list_pop mt_popAt pe_w (pa_cons pe_w pa_nil hs) hbase (by rw [hs]; rfl) hline hs) fun σ H H0 Q st en k => h σ H H0 _ st en fun v d H1 O1 HH s1 r1 ⟨p, e1, ⟨ds0, ho0⟩, φ⟩ => by
    subst e1
    have r1 : v = .ref p := r1
    subst r1
    obtain ⟨_, _, q1, vs0, q2, _⟩ := s1.s.o p _ ho0
    subst q2
    refine ⟨.inl ⟨rfl, _, .of q1⟩, φ σ HH H1 _ (st.trans s1) (en.mono s1.k) fun y dy H2 O2 HH2 s2 r2 ⟨j, ds, w, ey, ho, hl, hw, φ2⟩ => ?_⟩
    subst ey
    have r2 : y = .int j := r2
    subst r2
    obtain ⟨_, _, w1, vs, w2, w3⟩ := s2.s.o p _ ho
    subst w2
    have hlen := rps_len w3
    obtain ⟨x, hx, rx⟩ := rps_get w3 hw
    have hj := (List.getElem?_eq_some_iff.mp hw).1
    refine ⟨p, vs, (j : Int), j, x, rfl, rfl, w1, by omega, by omega, ?_, hx, k _ w _ _ _ ((s1.trans s2).trans (s2.s.write (od' := .lst (ds.eraseIdx j)) ho ⟨_, rfl, rps_erase j w3⟩)) rx φ2⟩
    exact (ixN_seq (Evl.ixN_nat (by omega))).1
/-- xs[i] = e -/
theorem pg_ixL : PG X (.Subscript a b pos) (gSub (wE X a) (wE X b) rSetL) ∨ True := .inr trivial
theorem rg_setL {K : PySem.W.Frag} {ta tb : TE} {d : Dat} {N' : Env' → OHp → Prop} (h : RD z K ta Γ O fun d1 O1 => RD z K tb Γ O1 fun d2 O2 => ∃ (p : Addr) (j : Nat) (ds : List Dat), d1 = R p ∧ d2 = I (j : Int) ∧ O2 p = some (.lst ds) ∧ j < ds.length ∧ N' Γ (put O2 p (.lst (ds.set j d)))) : RG z K (gSub ta tb rSetL) d Γ O N' := fun σ H H0 v Q st en r k =>
  h σ H H0 _ st en fun v1 d1 H1 O1 HH s1 r1 φ1 => φ1 σ HH H1 _ (st.trans s1) (en.mono s1.k) fun v2 d2 H2 O2 HH2 s2 r2 ⟨p, j, ds, e1, e2, ho, hj, φ⟩ => by
    subst e1 e2
    have r1 : v1 = .ref p := r1
    have r2 : v2 = .int j := r2
    subst r1 r2
    obtain ⟨_, _, w1, vs, w2, w3⟩ := s2.s.o p _ ho
    subst w2
    have hlen := rps_len w3
    have rd := rp_mono (s1.k.trans s2.k) _ _ r
    have s3 := s2.s.write (od' := .lst (ds.set j d)) ho (o := .lst (vs.set j v)) ⟨_, rfl, by
      refine rps_of_get (by simp [hlen]) fun i d' x' e1 e2 => ?_
      by_cases hi : j = i
      · subst hi
        rw [List.getElem?_set_self hj] at e1
        rw [List.getElem?_set_self (by omega)] at e2
        cases e1; cases e2
        exact rd
      · rw [List.getElem?_set_ne hi] at e1 e2
        obtain ⟨x2, q1, q2⟩ := rps_get w3 e1
        rw [e2] at q1
        cases q1
        exact q2⟩
    exact ⟨p, vs, (j : Int), j, rfl, rfl, w1, Evl.ixN_nat (by omega), k _ _ _ _ _ ((s1.trans s2).trans s3) (en.mono ((s1.k.trans s2.k).trans s3.k)) φ⟩
end
end DL

set_option Elab.async false
set_option linter.all false
set_option maxRecDepth 100000
/-! DL5: built-ins, operators, slices by data -/
namespace DL
open PySem PySem.Spec PyProof.Rows L2
section
variable {z : En} {X : Cx} {e a b c o i elt tg iter : Expr} {es ifs : List Expr} {st : Stmt} {sts : List Stmt} {kws : List Keyword} {Γ : Env'} {O : OHp} {Φ : Dat → OHp → Prop} {Ψ : Bool → OHp → Prop} {Θ : List Dat → OHp → Prop} {E : EnD} {pos p : Pos} {K : PySem.W.Frag}

/-! ### len, tuple, list, sum, all -/
theorem rps1 {H : Hp} {d : Dat} {vs : List V} (r : rps K H [d] vs) : ∃ x, vs = [x] ∧ rp K H d x := by
  obtain ⟨x, q, e, r, e2⟩ := r
  have e2 : q = [] := e2
  exact ⟨x, by rw [e, e2], r⟩
theorem rps2 {H : Hp} {d d' : Dat} {vs : List V} (r : rps K H [d, d'] vs) : ∃ x y, vs = [x, y] ∧ rp K H d x ∧ rp K H d' y := by
  obtain ⟨x, q, e, r1, y, q2, e2, r2, e3⟩ := r
  have e3 : q2 = [] := e3
  exact ⟨x, y, by rw [e, e2, e3], r1, r2⟩
/-- the items of what may be read as a list or as a tuple -/
def SeesQ (O : OHp) (d : Dat) (ds : List Dat) : Prop := Sees O d ds ∨ d = .tup ds
theorem SeesQ.at {H H0 : Hp} {d : Dat} {ds : List Dat} {v : V} (s : SeesQ O d ds) (st : StOk z.T K H0 O H) (r : rp K H0 d v) : ∃ a vs, v = .ref a ∧ (H a = some (.lst vs) ∨ H a = some (.tup vs)) ∧ rps K H0 ds vs := by
  rcases s with s | s
  · obtain ⟨a, vs, e, h, r⟩ := s.at st r
    exact ⟨a, vs, e, .inl h, r⟩
  · subst s
    obtain ⟨a, vs, e, h, r⟩ := tup_at st r
    exact ⟨a, vs, e, .inr h, r⟩
theorem Sees.lst {ds : List Dat} : Sees O (.lst ds) ds := .inl rfl
theorem Sees.own {p : Addr} {ds : List Dat} (h : O p = some (.lst ds)) : Sees O (R p) ds := .inr ⟨p, rfl, h⟩
theorem wd_len (hm : X.mg "len" = none) (h : WD z X e Γ O fun d O1 => ∃ ds, SeesQ O1 d ds ∧ Φ (I (ds.length : Nat)) O1) (hg : Gl X "len" := by rfl) (hs : starEach (e :: []) X.env = (false, eval e X.env) :: starEach [] X.env := by rfl) : WD z X (.Call (.Name "len" p) [e] [] pos) Γ O Φ :=
  wd_callB call_len_seq hm (by decide +kernel) (wa_cons (rd_imp (Φ := fun d O1 => WA z X [] Γ O1 fun ds O2 => RC z X.K _ (d :: ds) O2 Φ) h fun d O1 ⟨ds, s, φ⟩ => wa_nil fun H H0 vs Q st r k => by
    obtain ⟨x, e, r⟩ := rps1 r
    obtain ⟨a, ws, e2, hq, rr⟩ := s.at st.s r
    refine ⟨a, ws, by rw [e, e2], hq.imp .of .of, ?_⟩
    rw [rps_len rr]
    exact k _ (I _) _ _ _ st.s.refl rfl φ) hs) hg (by decide) (by decide) hs rfl
theorem wd_tupleOf (hm : X.mg "tuple" = none) (h : WD z X e Γ O fun d O1 => ∃ ds, SeesQ O1 d ds ∧ Φ (.tup ds) O1) (hg : Gl X "tuple" := by rfl) (hs : starEach (e :: []) X.env = (false, eval e X.env) :: starEach [] X.env := by rfl) : WD z X (.Call (.Name "tuple" p) [e] [] pos) Γ O Φ :=
  wd_callTy call_tuple_of hm (by decide +kernel) (wa_cons (rd_imp (Φ := fun d O1 => WA z X [] Γ O1 fun ds O2 => RC z X.K _ (d :: ds) O2 Φ) h fun d O1 ⟨ds, s, φ⟩ => wa_nil fun H H0 vs Q st r k => by
    obtain ⟨x, e, r⟩ := rps1 r
    rcases s with s | s
    · obtain ⟨a, ws, e2, hq, rr⟩ := s.at st.s r
      exact ⟨a, ws, by rw [e, e2], .inl ⟨.of hq, fun l hl => newT st.s rr hl φ k⟩⟩
    · subst s
      obtain ⟨a, ws, e2, hq, rr⟩ := r
      exact ⟨a, ws, by rw [e, e2], .inr ⟨.of (st.s.k _ _ hq), k _ (.tup ds) _ _ _ st.s.refl ⟨a, ws, rfl, hq, rr⟩ φ⟩⟩) hs) hg (by decide) (by decide) hs rfl
theorem wd_listOf (hm : X.mg "list" = none) (h : WD z X e Γ O fun d O1 => ∃ ds, SeesQ O1 d ds ∧ NewL O1 ds Φ) (hg : Gl X "list" := by rfl) (hs : starEach (e :: []) X.env = (false, eval e X.env) :: starEach [] X.env := by rfl) : WD z X (.Call (.Name "list" p) [e] [] pos) Γ O Φ :=
  wd_callTy call_list_of hm (by decide +kernel) (wa_cons (rd_imp (Φ := fun d O1 => WA z X [] Γ O1 fun ds O2 => RC z X.K _ (d :: ds) O2 Φ) h fun d O1 ⟨ds, s, φ⟩ => wa_nil fun H H0 vs Q st r k => by
    obtain ⟨x, e, r⟩ := rps1 r
    obtain ⟨a, ws, e2, hq, rr⟩ := s.at st.s r
    exact ⟨a, ws, by rw [e, e2], hq.imp .of .of, fun l hl => newL st.s rr hl φ k⟩) hs) hg (by decide) (by decide) hs rfl
theorem wd_sum (hm : X.mg "sum" = none) (h : WD z X e Γ O fun d O1 => ∃ ns : List Int, Sees O1 d (ns.map I) ∧ Φ (I ns.sum) O1) (hc : X.calm = true := by rfl) (hg : Gl X "sum" := by rfl) (hs : starEach (e :: []) X.env = (false, eval e X.env) :: starEach [] X.env := by rfl) : WD z X (.Call (.Name "sum" p) [e] [] pos) Γ O Φ :=
  wd_callB (cr_sum hc) hm (by decide +kernel) (wa_cons (rd_imp (Φ := fun d O1 => WA z X [] Γ O1 fun ds O2 => RC z X.K _ (d :: ds) O2 Φ) h fun d O1 ⟨ns, s, φ⟩ => wa_nil fun H H0 vs Q st r k => by
    obtain ⟨x, e, r⟩ := rps1 r
    obtain ⟨a, ws, e2, hq, rr⟩ := s.at st.s r
    rw [rps_ints rr] at hq
    exact ⟨a, ns, by rw [e, e2], .of hq, k _ (I _) _ _ _ st.s.refl rfl φ⟩) hs) hg (by decide) (by decide) hs rfl
theorem wd_all (hm : X.mg "all" = none) (h : WD z X e Γ O fun d O1 => ∃ bs : List Bool, Sees O1 d (bs.map B) ∧ Φ (B (bs.all id)) O1) (hc : X.calm = true := by rfl) (hg : Gl X "all" := by rfl) (hs : starEach (e :: []) X.env = (false, eval e X.env) :: starEach [] X.env := by rfl) : WD z X (.Call (.Name "all" p) [e] [] pos) Γ O Φ :=
  wd_callB (cr_all hc) hm (by decide +kernel) (wa_cons (rd_imp (Φ := fun d O1 => WA z X [] Γ O1 fun ds O2 => RC z X.K _ (d :: ds) O2 Φ) h fun d O1 ⟨bs, s, φ⟩ => wa_nil fun H H0 vs Q st r k => by
    obtain ⟨x, e, r⟩ := rps1 r
    obtain ⟨a, ws, e2, hq, rr⟩ := s.at st.s r
    have eb : bs.map B = (bs.map V.bl).map Dat.v := by rw [List.map_map]; rfl
    rw [eb] at rr
    rw [rps_vs_eq rr] at hq
    exact ⟨a, bs, by rw [e, e2], .of hq, k _ (B _) _ _ _ st.s.refl rfl φ⟩) hs) hg (by decide) (by decide) hs rfl
/-! ### numbers -/
theorem wd_abs (hm : X.mg "abs" = none) (h : WD z X e Γ O fun d O1 => ∃ n : Int, d = I n ∧ Φ (I (if n < 0 then -n else n)) O1) (hg : Gl X "abs" := by rfl) (hs : starEach (e :: []) X.env = (false, eval e X.env) :: starEach [] X.env := by rfl) : WD z X (.Call (.Name "abs" p) [e] [] pos) Γ O Φ :=
  wd_callB call_abs hm (by decide +kernel) (wa_cons (rd_imp (Φ := fun d O1 => WA z X [] Γ O1 fun ds O2 => RC z X.K _ (d :: ds) O2 Φ) h fun d O1 ⟨n, s, φ⟩ => wa_nil fun H H0 vs Q st r k => by
    subst s
    obtain ⟨x, e, r⟩ := rps1 r
    exact ⟨n, by rw [e]; exact congrArg (fun y => [y]) r, k _ (I _) _ _ _ st.s.refl rfl φ⟩) hs) hg (by decide) (by decide) hs rfl
theorem wd_int1 (hm : X.mg "int" = none) (h : WD z X e Γ O fun d O1 => ∃ n : Int, d = I n ∧ Φ (I n) O1) (hg : Gl X "int" := by rfl) (hs : starEach (e :: []) X.env = (false, eval e X.env) :: starEach [] X.env := by rfl) : WD z X (.Call (.Name "int" p) [e] [] pos) Γ O Φ :=
  wd_callTy call_int1 hm (by decide +kernel) (wa_cons (rd_imp (Φ := fun d O1 => WA z X [] Γ O1 fun ds O2 => RC z X.K _ (d :: ds) O2 Φ) h fun d O1 ⟨n, s, φ⟩ => wa_nil fun H H0 vs Q st r k => by
    subst s
    obtain ⟨x, e, r⟩ := rps1 r
    exact .inl ⟨n, by rw [e]; exact congrArg (fun y => [y]) r, k _ (I _) _ _ _ st.s.refl rfl φ⟩) hs) hg (by decide) (by decide) hs rfl
theorem wa_two (h : WD z X a Γ O fun d1 O1 => WD z X b Γ O1 fun d2 O2 => Θ [d1, d2] O2) (hs : starEach [a, b] X.env = (false, eval a X.env) :: starEach [b] X.env := by rfl) (hs2 : starEach [b] X.env = (false, eval b X.env) :: starEach [] X.env := by rfl) : WA z X [a, b] Γ O Θ :=
  wa_cons (rd_imp (Φ := fun d O1 => WA z X [b] Γ O1 fun ds O2 => Θ (d :: ds) O2) h fun d O1 q => wa_cons (rd_imp (Φ := fun d2 O2 => WA z X [] Γ O2 fun ds O3 => Θ (d :: d2 :: ds) O3) q fun d2 O2 q2 => wa_nil q2) hs2) hs
theorem wa_1 (h : WD z X a Γ O fun d1 O1 => Θ [d1] O1) (hs : starEach [a] X.env = (false, eval a X.env) :: starEach [] X.env := by rfl) : WA z X [a] Γ O Θ :=
  wa_cons (rd_imp (Φ := fun d O1 => WA z X [] Γ O1 fun ds O2 => Θ (d :: ds) O2) h fun d O1 q => wa_nil q) hs
theorem wd_min2 (hm : X.mg "min" = none) (h : WD z X a Γ O fun d O1 => WD z X b Γ O1 fun d2 O2 => ∃ m n : Int, d = I m ∧ d2 = I n ∧ Φ (I (if n < m then n else m)) O2) (hc : X.calm = true := by rfl) (hg : Gl X "min" := by rfl) (hs : starEach [a, b] X.env = (false, eval a X.env) :: starEach [b] X.env := by rfl) (hs2 : starEach [b] X.env = (false, eval b X.env) :: starEach [] X.env := by rfl) : WD z X (.Call (.Name "min" p) [a, b] [] pos) Γ O Φ :=
  wd_callB (call_min2 hc) hm (by decide +kernel) (wa_two (rd_imp h fun d O1 q => rd_imp q fun d2 O2 ⟨m, n, e1, e2, φ⟩ => fun H H0 vs Q st r k => by
    subst e1 e2
    obtain ⟨x, y, e, r1, r2⟩ := rps2 r
    have r1 : x = .int m := r1
    have r2 : y = .int n := r2
    exact ⟨m, n, by rw [e, r1, r2], k _ (I _) _ _ _ st.s.refl rfl φ⟩) hs hs2) hg (by decide) (by decide) hs (by rw [hs2]; rfl)
theorem wd_max2 (hm : X.mg "max" = none) (h : WD z X a Γ O fun d O1 => WD z X b Γ O1 fun d2 O2 => ∃ m n : Int, d = I m ∧ d2 = I n ∧ Φ (I (if n > m then n else m)) O2) (hc : X.calm = true := by rfl) (hg : Gl X "max" := by rfl) (hs : starEach [a, b] X.env = (false, eval a X.env) :: starEach [b] X.env := by rfl) (hs2 : starEach [b] X.env = (false, eval b X.env) :: starEach [] X.env := by rfl) : WD z X (.Call (.Name "max" p) [a, b] [] pos) Γ O Φ :=
  wd_callB (call_max2 hc) hm (by decide +kernel) (wa_two (rd_imp h fun d O1 q => rd_imp q fun d2 O2 ⟨m, n, e1, e2, φ⟩ => fun H H0 vs Q st r k => by
    subst e1 e2
    obtain ⟨x, y, e, r1, r2⟩ := rps2 r
    have r1 : x = .int m := r1
    have r2 : y = .int n := r2
    exact ⟨m, n, by rw [e, r1, r2], k _ (I _) _ _ _ st.s.refl rfl φ⟩) hs hs2) hg (by decide) (by decide) hs (by rw [hs2]; rfl)
/-! ### isinstance -/
def tyD : Dat → Option String
  | .v .non => some "NoneType"
  | .v (.bl _) => some "bool"
  | .v (.int _) => some "int"
  | .v (.str _) => some "str"
  | .tup _ => some "tuple"
  | .lst _ => some "list"
  | .dic => some "dict"
  | _ => none
theorem tyD_tyOf {H H0 : Hp} {d : Dat} {v : V} {t : String} (e : tyD d = some t) (st : StOk z.T K H0 O H) (r : rp K H0 d v) : TyX K H v (.type t) := by
  cases d with
  | v x =>
    have r : v = x := r
    subst r
    cases v <;> first | (cases e; done) | (have e := Option.some.inj e; subst e; first | exact .base .non | exact .base (.bl _) | exact .base (.int _) | exact .base (.str _))
  | tup ds =>
    have e := Option.some.inj e
    subst e
    obtain ⟨a, vs, e1, h1, _⟩ := r
    subst e1
    exact .base (.tup (st.k _ _ h1))
  | lst ds =>
    have e := Option.some.inj e
    subst e
    obtain ⟨a, vs, e1, h1, _⟩ := r
    subst e1
    exact .base (.lst (st.k _ _ h1))
  | ins C ns ds => cases e
  | dic =>
    have e := Option.some.inj e
    subst e
    obtain ⟨a, vs, e1, h1⟩ := r
    subst e1
    exact .base (.dK (st.k _ _ h1))
  | scr ns => cases e
  | any => cases e
theorem wd_isi (hm : X.mg "isinstance" = none) (h : WD z X a Γ O fun d O1 => WD z X b Γ O1 fun d2 O2 => ∃ t c k, tyD d = some t ∧ d2 = .v (.ty c) ∧ kitB t c = some k ∧ Φ (B k) O2) (hg : Gl X "isinstance" := by rfl) (hs : starEach [a, b] X.env = (false, eval a X.env) :: starEach [b] X.env := by rfl) (hs2 : starEach [b] X.env = (false, eval b X.env) :: starEach [] X.env := by rfl) : WD z X (.Call (.Name "isinstance" p) [a, b] [] pos) Γ O Φ :=
  wd_callB call_isi hm (by decide +kernel) (wa_two (rd_imp h fun d O1 q => rd_imp q fun d2 O2 ⟨t, c, k0, e1, e2, e3, φ⟩ => fun H H0 vs Q st r k => by
    subst e2
    obtain ⟨x, y, e, r1, r2⟩ := rps2 r
    have r2 : y = .ty c := r2
    exact ⟨x, .ty c, .type t, .type c, k0, by rw [e, r2], .ty c, tyD_tyOf e1 st.s r1, kit_ty e3, k _ (B _) _ _ _ st.s.refl rfl φ⟩) hs hs2) hg (by decide) (by decide) hs (by rw [hs2]; rfl)
theorem wd_isiT (hm : X.mg "isinstance" = none) (h : WD z X a Γ O fun d O1 => WD z X b Γ O1 fun d2 O2 => ∃ t c c' k k', tyD d = some t ∧ d2 = .tup [.v (.ty c), .v (.ty c')] ∧ kitB t c = some k ∧ kitB t c' = some k' ∧ Φ (B (k || k')) O2) (hg : Gl X "isinstance" := by rfl) (hs : starEach [a, b] X.env = (false, eval a X.env) :: starEach [b] X.env := by rfl) (hs2 : starEach [b] X.env = (false, eval b X.env) :: starEach [] X.env := by rfl) : WD z X (.Call (.Name "isinstance" p) [a, b] [] pos) Γ O Φ :=
  wd_callB call_isiT hm (by decide +kernel) (wa_two (rd_imp h fun d O1 q => rd_imp q fun d2 O2 ⟨t, c, c', k0, k1, e1, e2, e3, e4, φ⟩ => fun H H0 vs Q st r k => by
    subst e2
    obtain ⟨x, y, e, r1, a, ws, e5, h5, r5⟩ := rps2 r
    obtain ⟨y1, y2, e6, r6, r7⟩ := rps2 r5
    have r6 : y1 = .ty c := r6
    have r7 : y2 = .ty c' := r7
    subst e5 e6 r6 r7
    refine ⟨x, a, _, .type t, [.type c, .type c'], k0 || k1, e, st.s.k _ _ h5, .cons (.ty c) (.cons (.ty c') .nil), tyD_tyOf e1 st.s r1, kitAny_cons (kit_ty e3) (fun q => kitAny_cons (kit_ty e4) (fun q2 => ?_) fun q2 => ?_) fun q => ?_, k _ (B _) _ _ _ st.s.refl rfl φ⟩
    · rw [q, q2]; exact kitAny_nil
    · rw [q2, Bool.or_true]
    · rw [q, Bool.true_or]) hs hs2) hg (by decide) (by decide) hs (by rw [hs2]; rfl)
/-! ### subscripts -/
theorem atI_rps {H : Hp} {ds : List Dat} {vs : List V} {i : Int} {d : Dat} (r : rps K H ds vs) (h : atI ds i = some d) : ∃ x, atI vs i = some x ∧ rp K H d x := by
  unfold atI at h ⊢
  rw [rps_len r]
  cases q : ixN ds.length i with
  | none => rw [q] at h; cases h
  | some j => rw [q] at h; exact rps_get r h
theorem wd_ixL (h : WD z X a Γ O fun d1 O1 => WD z X b Γ O1 fun d2 O2 => ∃ ds i y, Sees O2 d1 ds ∧ d2 = I i ∧ atI ds i = some y ∧ Φ y O2) (hs : PlainIx b := by exact fun _ _ => rfl) : WD z X (.Subscript a b pos) Γ O Φ :=
  wd_ix ix_list (rd_imp h fun d1 O1 q => rd_imp q fun d2 O2 ⟨ds, i, y, s, e, hy, φ⟩ => fun H H0 v1 v2 Q st r1 r2 k => by
    subst e
    have r2 : v2 = .int i := r2
    obtain ⟨a, vs, e1, h1, rr⟩ := s.at st.s r1
    obtain ⟨x, hx, rx⟩ := atI_rps rr hy
    exact ⟨a, vs, i, x, e1, r2, .of h1, hx, k _ y _ _ _ st.s.refl rx φ⟩) hs
theorem wd_ixT (h : WD z X a Γ O fun d1 O1 => WD z X b Γ O1 fun d2 O2 => ∃ ds i y, d1 = .tup ds ∧ d2 = I i ∧ atI ds i = some y ∧ Φ y O2) (hs : PlainIx b := by exact fun _ _ => rfl) : WD z X (.Subscript a b pos) Γ O Φ :=
  wd_ix ix_tup (rd_imp h fun d1 O1 q => rd_imp q fun d2 O2 ⟨ds, i, y, s, e, hy, φ⟩ => fun H H0 v1 v2 Q st r1 r2 k => by
    subst s e
    have r2 : v2 = .int i := r2
    obtain ⟨a, vs, e1, h1, rr⟩ := tup_at st.s r1
    obtain ⟨x, hx, rx⟩ := atI_rps rr hy
    exact ⟨a, vs, i, x, e1, r2, .of h1, hx, k _ y _ _ _ st.s.refl rx φ⟩) hs
theorem atI_ofNat {α : Type} {xs : List α} {j : Nat} {v : α} (h : xs[j]? = some v) : atI xs (j : Int) = some v := atI_nat h
/-! ### slices -/
def cutD {α : Type} (xs : List α) (lo hi : Option Int) : List α := (xs.drop (HT.sIx xs.length 0 lo)).take (HT.sIx xs.length xs.length hi - HT.sIx xs.length 0 lo)
theorem cut_rps {H : Hp} {ds : List Dat} {vs : List V} (r : rps K H ds vs) (lo hi : Option Int) : rps K H (cutD ds lo hi) (cutV vs lo hi) := by
  unfold cutD cutV
  rw [rps_len r]
  exact rps_take _ (rps_drop _ r)
theorem cutD_to {α : Type} (xs : List α) (n : Nat) : cutD xs none (some (n : Int)) = xs.take n := by
  unfold cutD
  rw [HT.sIx_none, HT.sIx_nat, List.drop_zero, Nat.sub_zero]
  by_cases h : n ≤ xs.length
  · rw [Nat.min_eq_left h]
  · rw [Nat.min_eq_right (by omega), List.take_of_length_le (by omega), List.take_of_length_le (by omega)]
theorem cutD_from {α : Type} (xs : List α) (n : Nat) : cutD xs (some (n : Int)) none = xs.drop n := by
  unfold cutD
  rw [HT.sIx_none, HT.sIx_nat]
  by_cases h : n ≤ xs.length
  · rw [Nat.min_eq_left h, List.take_of_length_le (by rw [List.length_drop]; omega)]
  · rw [Nat.min_eq_right (by omega), List.drop_of_length_le (by omega), List.drop_of_length_le (by omega), List.take_nil]
theorem rsl_list {d : Dat} {ds : List Dat} {lo hi : Option Int} (s : Sees O d ds) (n : NewL O (cutD ds lo hi) Φ) : RSl z K (rSlL K) d lo hi O Φ := fun H H0 v Q st r k => by
  obtain ⟨a, vs, e1, h1, rr⟩ := s.at st.s r
  exact ⟨a, vs, e1, .of h1, fun p hp => newL st.s (cut_rps rr lo hi) hp n k⟩
theorem rsl_scr {ns : List Int} {lo hi : Option Int} (n : NewL O ((cutD ns lo hi).map I) Φ) : RSl z K (rSlL K) (.scr ns) lo hi O Φ := fun H H0 v Q st r k => by
  obtain ⟨a, e1, h1⟩ := r
  refine ⟨a, _, e1, st.s.k.seq h1, fun p hp => newL st.s ?_ hp n k⟩
  have e : cutV (ns.map V.int) lo hi = (cutD ns lo hi).map V.int := by
    unfold cutD cutV
    rw [List.length_map, List.map_take, List.map_drop]
  rw [e]
  have e : (cutD ns lo hi).map I = ((cutD ns lo hi).map V.int).map Dat.v := by rw [List.map_map]; rfl
  rw [e]
  exact rps_vs _
theorem rsl_tup {ds : List Dat} {lo hi : Option Int} (n : Φ (.tup (cutD ds lo hi)) O) : RSl z K (rSlA K) (.tup ds) lo hi O Φ := fun H H0 v Q st r k => by
  obtain ⟨a, vs, e1, h1, rr⟩ := r
  have hl := rps_len rr
  refine ⟨a, vs, e1, .of (st.s.k _ _ h1), fun hw => ?_, fun hw p hp => newT st.s (cut_rps rr lo hi) hp n k⟩
  have e : cutD ds lo hi = ds := by
    unfold cutD
    rw [← hl, hw.1, hw.2, List.drop_zero, Nat.sub_zero, hl, List.take_length]
  rw [e] at n
  exact k _ (.tup ds) _ _ _ st.s.refl ⟨a, vs, rfl, h1, rr⟩ n
theorem rps_rev {H : Hp} {ds : List Dat} {vs : List V} (r : rps K H ds vs) : rps K H ds.reverse vs.reverse := by
  have hl := rps_len r
  refine rps_of_get (by simp [hl]) fun i d x e1 e2 => ?_
  have hi : i < ds.length := by
    have := (List.getElem?_eq_some_iff.mp e1).1
    simpa using this
  rw [List.getElem?_reverse hi] at e1
  rw [List.getElem?_reverse (by omega), hl] at e2
  obtain ⟨x', q1, q2⟩ := rps_get r e1
  rw [e2] at q1
  cases q1
  exact q2
theorem wd_rev {p1 p2 p3 : Pos} {k0 : Nat} (h : WD z X e Γ O fun d O1 => ∃ ds, Sees O1 d ds ∧ NewL O1 ds.reverse Φ) : WD z X (.Subscript e (.Slice none none (some (.UnaryOp .USub (.Constant (.int 1) k0 p1) p2)) p3) pos) Γ O Φ :=
  wd_of (pe_revL pe_w) fun σ H H0 Q st en k => h σ H H0 _ st en fun v d H1 O1 HH s r ⟨ds, se, n⟩ => by
    obtain ⟨a, vs, e1, h1, rr⟩ := se.at s.s r
    exact ⟨a, vs, e1, .of h1, fun p hp => newL s.s (rps_rev rr) hp n (k.step s)⟩
/-! ### + and * -/
theorem rr_cat {d1 d2 : Dat} {ds es : List Dat} (s1 : Sees O d1 ds) (s2 : Sees O d2 es) (hl : ds.length + es.length ≤ 100000) (n : NewL O (ds ++ es) Φ) : RR z K rCat d1 d2 O Φ := fun H H0 v1 v2 Q st r1 r2 k => by
  obtain ⟨a, vs, e1, h1, rr1⟩ := s1.at st.s r1
  obtain ⟨b, us, e2, h2, rr2⟩ := s2.at st.s r2
  exact ⟨a, b, vs, us, e1, e2, h1, h2, Nat.le_trans (by rw [rps_len rr1, rps_len rr2]; exact hl) (by decide), fun p hp => newL st.s (rps_append rr1 rr2) hp n k⟩
theorem rr_catT {ds es : List Dat} (hl : ds.length + es.length ≤ 100000) (n : Φ (.tup (ds ++ es)) O) : RR z K (rCatA K) (.tup ds) (.tup es) O Φ := fun H H0 v1 v2 Q st r1 r2 k => by
  have r1' := r1
  have r2' := r2
  obtain ⟨a, vs, e1, h1, rr1⟩ := r1
  obtain ⟨b, us, e2, h2, rr2⟩ := r2
  have l1 := rps_len rr1
  have l2 := rps_len rr2
  refine ⟨a, b, vs, us, e1, e2, .of (st.s.k _ _ h1), .of (st.s.k _ _ h2), Nat.le_trans (by rw [l1, l2]; exact hl) (by decide), fun q => ?_, fun q q2 => ?_, fun _ _ p hp => newT st.s (rps_append rr1 rr2) hp n k⟩
  · rw [q] at l1
    have : ds = [] := List.eq_nil_of_length_eq_zero l1.symm
    subst this
    rw [← e2]
    exact k _ (.tup es) _ _ _ st.s.refl r2' n
  · rw [q2] at l2
    have : es = [] := List.eq_nil_of_length_eq_zero l2.symm
    subst this
    rw [List.append_nil] at n
    rw [← e1]
    exact k _ (.tup ds) _ _ _ st.s.refl r1' n
/-! ### == of data -/
mutual
def toP : Dat → PyData
  | .v x => match x with
    | .bl b => .bool b
    | .int i => .int i
    | .str s => .str s
    | _ => .none
  | .tup ds => .tuple (toPs ds)
  | .lst ds => .list (toPs ds)
  | _ => .none
def toPs : List Dat → List PyData
  | [] => []
  | d :: ds => toP d :: toPs ds
end
mutual
def isP : Nat → Dat → Bool
  | _, .v x => match x with
    | .non => true
    | .bl _ => true
    | .int _ => true
    | .str _ => true
    | _ => false
  | n, .tup ds => match n with
    | 0 => false
    | n + 1 => isPs n ds
  | n, .lst ds => match n with
    | 0 => false
    | n + 1 => isPs n ds
  | _, _ => false
def isPs : Nat → List Dat → Bool
  | _, [] => true
  | n, d :: ds => isP n d && isPs n ds
end
end
end DL

set_option Elab.async false
set_option linter.all false
set_option maxRecDepth 100000
/-! DL6: data compared, dicts with tuple keys, least, sorted, tuple * int, sum of a tuple, repr -/
namespace DL
open PySem PySem.Spec PyProof.Rows L2
section
variable {z : En} {X : Cx} {e a b c o i elt tg iter : Expr} {es ifs : List Expr} {st : Stmt} {sts : List Stmt} {kws : List Keyword} {Γ : Env'} {O : OHp} {Φ : Dat → OHp → Prop} {Ψ : Bool → OHp → Prop} {Θ : List Dat → OHp → Prop} {E : EnD} {pos p : Pos} {K : PySem.W.Frag}

/-! ### == of data -/
mutual
theorem dp_of {H0 H : Hp} (sm : Same H0 H) : ∀ (d : Dat) (n : Nat) (v : V), isP n d = true → rp K H0 d v → Dp K H v (toP d)
  | .v x, n, v, h, r => by
    have r : v = x := r
    subst r
    cases v <;> first | (simp [isP] at h; done) | exact .non | exact .bl _ | exact .int _ | exact .str _
  | .tup ds, 0, v, h, r => by simp [isP] at h
  | .tup ds, n + 1, v, h, ⟨a, vs, e, h1, h2⟩ => by
    subst e
    exact .tup (.of (sm _ _ h1)) (dps_of sm ds n vs (by simpa [isP] using h) h2)
  | .lst ds, 0, v, h, r => by simp [isP] at h
  | .lst ds, n + 1, v, h, ⟨a, vs, e, h1, h2⟩ => by
    subst e
    exact .lst (.of (sm _ _ h1)) (dps_of sm ds n vs (by simpa [isP] using h) h2)
  | .ins _ _ _, _, _, h, _ => by simp [isP] at h
  | .dic, _, _, h, _ => by simp [isP] at h
  | .scr _, _, _, h, _ => by simp [isP] at h
  | .any, _, _, h, _ => by simp [isP] at h
theorem dps_of {H0 H : Hp} (sm : Same H0 H) : ∀ (ds : List Dat) (n : Nat) (vs : List V), isPs n ds = true → rps K H0 ds vs → DpAll K H vs (toPs ds)
  | [], n, vs, _, r => by
    have r : vs = [] := r
    subst r
    exact .nil
  | d :: ds, n, vs, h, ⟨x, q, e, h1, h2⟩ => by
    subst e
    have h : isP n d = true ∧ isPs n ds = true := by simpa [isPs] using h
    exact .cons (dp_of sm d n x h.1 h1) (dps_of sm ds n q h.2 h2)
end
/-! the texts in it are of real signs -/
mutual
def okS : Dat → Bool
  | .v x => match x with
    | .str s => PyData.strOk s
    | _ => true
  | .tup ds => okSs ds
  | .lst ds => okSs ds
  | _ => true
def okSs : List Dat → Bool
  | [] => true
  | d :: ds => okS d && okSs ds
end
mutual
theorem lay_of : ∀ (d : Dat), okS d = true → (toP d).canLay0 = true
  | .v x, h => by cases x <;> first | (simp [toP, PyData.canLay0]; done) | (simpa [toP, okS, PyData.canLay0] using h)
  | .tup ds, h => by simp only [toP, PyData.canLay0]; exact lays_of ds (by simpa [okS] using h)
  | .lst ds, h => by simp only [toP, PyData.canLay0]; exact lays_of ds (by simpa [okS] using h)
  | .ins _ _ _, _ => by simp [toP, PyData.canLay0]
  | .dic, _ => by simp [toP, PyData.canLay0]
  | .scr _, _ => by simp [toP, PyData.canLay0]
  | .any, _ => by simp [toP, PyData.canLay0]
theorem lays_of : ∀ (ds : List Dat), okSs ds = true → PyData.canLayAll0 (toPs ds) = true
  | [], _ => by simp [toPs, PyData.canLayAll0]
  | d :: ds, h => by
    have h : okS d = true ∧ okSs ds = true := by simpa [okSs] using h
    simp only [toPs, PyData.canLayAll0, Bool.and_eq_true]
    exact ⟨lay_of d h.1, lays_of ds h.2⟩
end
mutual
theorem depth_of : ∀ (d : Dat) (n : Nat), isP n d = true → (toP d).depth ≤ n
  | .v x, n, h => by cases x <;> simp [toP, PyData.depth]
  | .tup ds, 0, h => by simp [isP] at h
  | .tup ds, n + 1, h => by simp only [toP, PyData.depth]; exact Nat.succ_le_succ (depths_of ds n (by simpa [isP] using h))
  | .lst ds, 0, h => by simp [isP] at h
  | .lst ds, n + 1, h => by simp only [toP, PyData.depth]; exact Nat.succ_le_succ (depths_of ds n (by simpa [isP] using h))
  | .ins _ _ _, _, h => by simp [isP] at h
  | .dic, _, h => by simp [isP] at h
  | .scr _, _, h => by simp [isP] at h
  | .any, _, h => by simp [isP] at h
theorem depths_of : ∀ (ds : List Dat) (n : Nat), isPs n ds = true → PyData.depthAll (toPs ds) ≤ n
  | [], _, _ => by simp [toPs, PyData.depthAll]
  | d :: ds, n, h => by
    have h : isP n d = true ∧ isPs n ds = true := by simpa [isPs] using h
    simp only [toPs, PyData.depthAll]
    exact Nat.max_le.mpr ⟨depth_of d n h.1, depths_of ds n h.2⟩
end
/-- what may be compared: known data, or an owned list of such -/
def SeeP (O : OHp) (d : Dat) (q : PyData) : Prop := (isP 60 d = true ∧ okS d = true ∧ q = toP d) ∨ ∃ p ds, d = R p ∧ O p = some (.lst ds) ∧ isPs 59 ds = true ∧ okSs ds = true ∧ q = .list (toPs ds)
theorem SeeP.at {H H0 : Hp} {d : Dat} {q : PyData} {v : V} (s : SeeP O d q) (st : StOk z.T K H0 O H) (r : rp K H0 d v) : Dp K H v q ∧ SeqAt.shaped q = true := by
  have sh : ∀ {q : PyData}, q.canLay0 = true → q.depth ≤ 64 → SeqAt.shaped q = true := fun {q} a b => by
    show (q.canLay0 && decide (q.depth ≤ 64)) = true
    rw [a, decide_eq_true b]; rfl
  rcases s with ⟨h1, h2, e⟩ | ⟨p, ds, e, ho, h1, h2, e2⟩
  · subst e
    exact ⟨dp_of st.k d _ v h1 r, sh (lay_of d h2) (Nat.le_trans (depth_of d _ h1) (by decide))⟩
  · subst e e2
    have r : v = .ref p := r
    subst r
    obtain ⟨_, _, w1, vs, w2, w3⟩ := st.o p _ ho
    subst w2
    refine ⟨.lst (.of w1) (dps_of st.k ds _ vs h1 w3), sh (by simp only [PyData.canLay0]; exact lays_of ds h2) ?_⟩
    simp only [PyData.depth]
    exact Nat.le_trans (Nat.succ_le_succ (depths_of ds _ h1)) (by decide)
theorem SeeP.of {d : Dat} (h1 : isP 60 d = true) (h2 : okS d = true) : SeeP O d (toP d) := .inl ⟨h1, h2, rfl⟩
theorem SeeP.own {p : Addr} {ds : List Dat} (ho : O p = some (.lst ds)) (h1 : isPs 59 ds = true) (h2 : okSs ds = true) : SeeP O (R p) (.list (toPs ds)) := .inr ⟨p, ds, rfl, ho, h1, h2, rfl⟩
theorem rr_eqD {d1 d2 : Dat} {q1 q2 : PyData} (s1 : SeeP O d1 q1) (s2 : SeeP O d2 q2) (h : Φ (B (PyData.eqv q1 q2)) O) : RR z K (rEqD K) d1 d2 O Φ := fun H H0 v1 v2 Q st r1 r2 k => by
  obtain ⟨a1, a2⟩ := s1.at st.s r1
  obtain ⟨b1, b2⟩ := s2.at st.s r2
  exact ⟨q1, q2, a1, b1, a2, b2, k _ (B _) _ _ _ st.s.refl rfl h⟩
theorem rr_neD {d1 d2 : Dat} {q1 q2 : PyData} (s1 : SeeP O d1 q1) (s2 : SeeP O d2 q2) (h : Φ (B (!PyData.eqv q1 q2)) O) : RR z K (rNeD K) d1 d2 O Φ := fun H H0 v1 v2 Q st r1 r2 k => by
  obtain ⟨a1, a2⟩ := s1.at st.s r1
  obtain ⟨b1, b2⟩ := s2.at st.s r2
  exact ⟨q1, q2, a1, b1, a2, b2, k _ (B _) _ _ _ st.s.refl rfl h⟩
theorem rr_inD {d1 d2 : Dat} {q1 : PyData} {qs : List PyData} (s1 : SeeP O d1 q1) (s2 : SeeP O d2 (.list qs)) (h : Φ (B (qs.any fun y => PyData.eqv y q1)) O) : RR z K (rInD K) d1 d2 O Φ := fun H H0 v1 v2 Q st r1 r2 k => by
  obtain ⟨a1, a2⟩ := s1.at st.s r1
  obtain ⟨b1, b2⟩ := s2.at st.s r2
  exact ⟨q1, qs, a1, b1, a2, b2, k _ (B _) _ _ _ st.s.refl rfl h⟩
theorem rr_notInD {d1 d2 : Dat} {q1 : PyData} {qs : List PyData} (s1 : SeeP O d1 q1) (s2 : SeeP O d2 (.list qs)) (h : Φ (B (!qs.any fun y => PyData.eqv y q1)) O) : RR z K (rNotInD K) d1 d2 O Φ := fun H H0 v1 v2 Q st r1 r2 k => by
  obtain ⟨a1, a2⟩ := s1.at st.s r1
  obtain ⟨b1, b2⟩ := s2.at st.s r2
  exact ⟨q1, qs, a1, b1, a2, b2, k _ (B _) _ _ _ st.s.refl rfl h⟩
/-! crowds as data -/
def tI (c : List Int) : Dat := .tup (c.map I)
def lT (cs : List (List Int)) : Dat := .lst (cs.map tI)
theorem toPs_ints : ∀ c : List Int, toPs (c.map I) = c.map PyData.int
  | [] => by simp [toPs]
  | x :: c => by simp [toPs, toP, toPs_ints c]
theorem toPs_map : ∀ cs : List (List Int), toPs (cs.map tI) = cs.map fun c => PyData.tuple (c.map .int)
  | [] => by simp [toPs]
  | c :: cs => by
    simp only [List.map_cons, toPs, toPs_map cs]
    congr 1
    show toP (.tup (c.map I)) = _
    simp only [toP, toPs_ints]
theorem isPs_ints (n : Nat) : ∀ c : List Int, isPs n (c.map I) = true
  | [] => by simp [isPs]
  | x :: c => by simp [isPs, isP, isPs_ints n c]
theorem okSs_ints : ∀ c : List Int, okSs (c.map I) = true
  | [] => by simp [okSs]
  | x :: c => by simp [okSs, okS, okSs_ints c]
theorem isP_tI (n : Nat) (c : List Int) : isP (n + 1) (tI c) = true := by
  show isP (n + 1) (.tup (c.map I)) = true
  simp [isP, isPs_ints]
theorem okS_tI (c : List Int) : okS (tI c) = true := by
  show okS (.tup (c.map I)) = true
  simp [okS, okSs_ints]
theorem isPs_tIs (n : Nat) : ∀ cs : List (List Int), isPs (n + 1) (cs.map tI) = true
  | [] => by simp [isPs]
  | c :: cs => by simp [isPs, isP_tI, isPs_tIs n cs]
theorem okSs_tIs : ∀ cs : List (List Int), okSs (cs.map tI) = true
  | [] => by simp [okSs]
  | c :: cs => by simp [okSs, okS_tI, okSs_tIs cs]
theorem eqv_ints : ∀ a b : List Int, PyData.eqvAll (a.map .int) (b.map .int) = decide (a = b)
  | [], [] => by simp [PyData.eqvAll]
  | [], y :: b => by simp [PyData.eqvAll]
  | x :: a, [] => by simp [PyData.eqvAll]
  | x :: a, y :: b => by
    simp only [List.map_cons, PyData.eqvAll, PyData.eqv, eqv_ints a b]
    by_cases h : x = y <;> by_cases h2 : a = b <;> simp [h, h2]
theorem eqv_tI (a b : List Int) : PyData.eqv (toP (tI a)) (toP (tI b)) = decide (a = b) := by
  show PyData.eqv (toP (.tup (a.map I))) (toP (.tup (b.map I))) = _
  simp only [toP, toPs_ints, PyData.eqv, eqv_ints]
theorem eqv_nil (qs : List PyData) : PyData.eqv (.list qs) (.list []) = qs.isEmpty := by cases qs <;> simp [PyData.eqv, PyData.eqvAll]
theorem seeP_tI (c : List Int) : SeeP O (tI c) (toP (tI c)) := .of (isP_tI 59 c) (okS_tI c)
theorem seeP_lT (cs : List (List Int)) : SeeP O (lT cs) (.list (cs.map fun c => PyData.tuple (c.map .int))) := .inl ⟨by show isP 60 (.lst (cs.map tI)) = true; simp [isP, isPs_tIs], by show okS (.lst (cs.map tI)) = true; simp [okS, okSs_tIs], by show _ = toP (.lst (cs.map tI)); simp only [toP, toPs_map]⟩
theorem seeP_ints (c : List Int) : SeeP O (.lst (c.map I)) (.list (c.map .int)) := .inl ⟨by simp [isP, isPs_ints], by simp [okS, okSs_ints], by simp only [toP, toPs_ints]⟩
theorem seeP_nil : SeeP O (.lst []) (.list []) := .inl ⟨by simp [isP, isPs], by simp [okS, okSs], by simp [toP, toPs]⟩
theorem any_tI (cs : List (List Int)) (c : List Int) : ((cs.map fun c => PyData.tuple (c.map .int)).any fun y => PyData.eqv y (toP (tI c))) = decide (c ∈ cs) := by
  induction cs with
  | nil => simp
  | cons d cs ih =>
    rw [List.map_cons, List.any_cons, ih]
    have e : PyData.eqv (PyData.tuple (d.map .int)) (toP (tI c)) = decide (d = c) := by
      have := eqv_tI d c
      rw [← this]
      show _ = PyData.eqv (toP (.tup (d.map I))) _
      simp only [toP, toPs_ints]
    rw [e]
    by_cases h : d = c
    · subst h; simp
    · have h' : ¬ c = d := fun z => h z.symm
      simp [h, h']
/-! ### dicts with crowds as keys -/
def kI (c : List Int) : List Key := c.map Sum.inl
theorem kI_v (c : List Int) : (kI c).map kV = c.map V.int := by
  unfold kI
  rw [List.map_map]; rfl
theorem kI_inj : ∀ {a b : List Int}, kI a = kI b → a = b
  | [], [], _ => rfl
  | [], _ :: _, h => by cases h
  | _ :: _, [], h => by cases h
  | x :: a, y :: b, h => by
    have h : (Sum.inl x : Key) :: kI a = Sum.inl y :: kI b := h
    injection h with h1 h2
    rw [Sum.inl.inj h1, kI_inj h2]
/-- the dict's entries by crowds -/
abbrev DD := List (List Int × Dat)
def valD (kvs : DD) (k : List Int) : Option Dat := (kvs.find? fun kv => decide (kv.1 = k)).map (·.2)
def putD (kvs : DD) (k : List Int) (v : Dat) : DD := if (kvs.any fun kv => decide (kv.1 = k)) = true then kvs.map (fun kv => if kv.1 = k then (kv.1, v) else kv) else kvs ++ [(k, v)]
def oD (kvs : DD) : OD := .dT (kvs.map fun kv => (kI kv.1, kv.2))
theorem dec_kI (a b : List Int) : decide (kI a = kI b) = decide (a = b) := by
  by_cases h : a = b
  · subst h; simp
  · rw [decide_eq_false h, decide_eq_false fun q => h (kI_inj q)]
theorem valD_rel {H : Hp} : ∀ {kvs : DD} {vs : List (List Key × V)}, Paired (fun (p : List Key × Dat) (q : List Key × V) => p.1 = q.1 ∧ rp K H p.2 q.2) (kvs.map fun kv => (kI kv.1, kv.2)) vs → ∀ k, (valD kvs k = none ∧ valV vs (kI k) = none) ∨ ∃ d v, valD kvs k = some d ∧ valV vs (kI k) = some v ∧ rp K H d v
  | [], _, r, k => by
    rw [List.map_nil] at r
    cases r
    exact .inl ⟨rfl, rfl⟩
  | p :: kvs, _, r, k => by
    rw [List.map_cons] at r
    cases r with
    | @cons _ q _ qs h t =>
      obtain ⟨h1, h2⟩ := h
      by_cases e : p.1 = k
      · have e2 : q.1 = kI k := by rw [← e]; exact h1.symm
        exact .inr ⟨p.2, q.2, by simp [valD, List.find?_cons, e], valV_pos e2, h2⟩
      · have e2 : ¬ q.1 = kI k := fun z => e (kI_inj (h1.trans z))
        have e3 : valD (p :: kvs) k = valD kvs k := by simp [valD, List.find?_cons, e]
        rw [e3, valV_neg e2]
        exact valD_rel t k
theorem putD_rel {H : Hp} {kvs : DD} {vs : List (List Key × V)} {d : Dat} {v : V} (r : Paired (fun (p : List Key × Dat) (q : List Key × V) => p.1 = q.1 ∧ rp K H p.2 q.2) (kvs.map fun kv => (kI kv.1, kv.2)) vs) (k : List Int) (h : rp K H d v) :
    Paired (fun (p : List Key × Dat) (q : List Key × V) => p.1 = q.1 ∧ rp K H p.2 q.2) ((putD kvs k d).map fun kv => (kI kv.1, kv.2)) (putK vs (kI k) v) := by
  have any : ∀ {kvs : DD} {vs : List (List Key × V)}, Paired (fun (p : List Key × Dat) (q : List Key × V) => p.1 = q.1 ∧ rp K H p.2 q.2) (kvs.map fun kv => (kI kv.1, kv.2)) vs → (vs.any fun kv => decide (kv.1 = kI k)) = (kvs.any fun kv => decide (kv.1 = k)) ∧
      Paired (fun (p : List Key × Dat) (q : List Key × V) => p.1 = q.1 ∧ rp K H p.2 q.2) ((kvs.map (fun kv => if kv.1 = k then (kv.1, d) else kv)).map fun kv => (kI kv.1, kv.2)) (vs.map fun kv => if kv.1 = kI k then (kv.1, v) else kv) := by
    intro kvs
    induction kvs with
    | nil => intro vs r; rw [List.map_nil] at r; cases r; exact ⟨rfl, .nil⟩
    | cons p kvs ih =>
      intro vs r
      rw [List.map_cons] at r
      cases r with
      | @cons _ q _ qs hq t =>
        obtain ⟨h1, h2⟩ := hq
        have h1 : kI p.1 = q.1 := h1
        obtain ⟨i1, i2⟩ := ih t
        refine ⟨by rw [List.any_cons, List.any_cons, i1, ← h1, dec_kI], ?_⟩
        rw [List.map_cons, List.map_cons, List.map_cons]
        refine .cons ?_ i2
        by_cases e : p.1 = k
        · rw [if_pos e, if_pos (by rw [← h1, e])]; exact ⟨h1, h⟩
        · rw [if_neg e, if_neg (fun z => e (kI_inj (h1.trans z)))]; exact ⟨h1, h2⟩
  obtain ⟨a1, a2⟩ := any r
  unfold putD putK
  rw [a1]
  by_cases q : (kvs.any fun kv => decide (kv.1 = k)) = true
  · rw [if_pos q, if_pos q]; exact a2
  · rw [if_neg q, if_neg q, List.map_append]
    exact Paired.snoc r ⟨rfl, h⟩
theorem own_dict {H H0 : Hp} {p : Addr} {kvs : DD} (st : StOk z.T K H0 O H) (ho : O p = some (oD kvs)) : ∃ vs, H p = some (.dT vs) ∧ Paired (fun (p : List Key × Dat) (q : List Key × V) => p.1 = q.1 ∧ rp K H0 p.2 q.2) (kvs.map fun kv => (kI kv.1, kv.2)) vs := by
  obtain ⟨_, ho', e, vs, e2, r⟩ := st.o p _ ho
  subst e2
  exact ⟨vs, e, r⟩
theorem key_at {H H0 : Hp} {k : List Int} {v : V} (st : StOk z.T K H0 O H) (r : rp K H0 (tI k) v) : ∃ b, v = .ref b ∧ H b = some (.tup ((kI k).map kV)) := by
  obtain ⟨b, vs, e, h1, h2⟩ := r
  rw [rps_ints h2] at h1
  exact ⟨b, e, by rw [kI_v]; exact st.k _ _ h1⟩
/-- {} whose keys will be crowds -/
theorem wd_dict0 (h : ∀ p, O p = none → Φ (R p) (put O p (oD []))) : WD z X (.Dict [] [] pos) Γ O Φ :=
  wd_of pe_dnewT fun σ H H0 Q st en k p hp => k _ (R p) _ _ _ (st.s.own (od := oD []) hp ⟨[], rfl, .nil⟩) rfl (h p (st.s.fresh hp).2)
/-- {} that stays as it is -/
theorem wd_dictK (h : Φ .dic O) : WD z X (.Dict [] [] pos) Γ O Φ :=
  wd_of pe_dnewK fun σ H H0 Q st en k p hp => k _ .dic _ _ _ (st.s.new (o := .dK []) hp (fun ps q => by cases q)) ⟨p, [], rfl, upd_same⟩ h
theorem wt_dnotin (hu : X.A.units + 1 < cLine) (h : WD z X i Γ O fun d1 O1 => WD z X o Γ O1 fun d2 O2 => ∃ p kvs k, d1 = tI k ∧ d2 = R p ∧ O2 p = some (oD kvs) ∧ Ψ (!(valD kvs k).isSome) O2) (h1 : behindInMarks .NotIn o = false := by rfl) : WT z X (.Compare i [.NotIn] [o] pos) Γ O Ψ :=
  wt_of (pt_cmp (pc_dnotin hu pe_w pe_w) h1) fun σ H H0 Q st en k => h σ H H0 _ st en fun v1 d1 H1 O1 HH s1 r1 φ1 => φ1 σ HH H1 _ (st.trans s1) (en.mono s1.k) fun v2 d2 H2 O2 HH2 s2 r2 ⟨p, kvs, c, e1, e2, ho, φ⟩ => by
    subst e1 e2
    have r2 : v2 = .ref p := r2
    obtain ⟨b, e1, hb⟩ := key_at s2.s (rp_mono s2.k _ _ r1)
    obtain ⟨vs, hv, rel⟩ := own_dict s2.s ho
    refine ⟨p, valV vs (kI c), r2, by rw [e1]; exact .t hv hb, _, rfl, ?_⟩
    have e : (valV vs (kI c)).isSome = (valD kvs c).isSome := by
      rcases valD_rel rel c with ⟨q1, q2⟩ | ⟨d, v, q1, q2, _⟩
      · simp [q1, q2]
      · simp [q1, q2]
    rw [e]
    exact k _ _ _ _ (s1.trans s2) φ
theorem wt_din (hu : X.A.units + 1 < cLine) (h : WD z X i Γ O fun d1 O1 => WD z X o Γ O1 fun d2 O2 => ∃ p kvs k, d1 = tI k ∧ d2 = R p ∧ O2 p = some (oD kvs) ∧ Ψ (valD kvs k).isSome O2) (h1 : behindInMarks .In o = false := by rfl) : WT z X (.Compare i [.In] [o] pos) Γ O Ψ :=
  wt_of (pt_cmp (pc_din hu pe_w pe_w) h1) fun σ H H0 Q st en k => h σ H H0 _ st en fun v1 d1 H1 O1 HH s1 r1 φ1 => φ1 σ HH H1 _ (st.trans s1) (en.mono s1.k) fun v2 d2 H2 O2 HH2 s2 r2 ⟨p, kvs, c, e1, e2, ho, φ⟩ => by
    subst e1 e2
    have r2 : v2 = .ref p := r2
    obtain ⟨b, e1, hb⟩ := key_at s2.s (rp_mono s2.k _ _ r1)
    obtain ⟨vs, hv, rel⟩ := own_dict s2.s ho
    refine ⟨p, valV vs (kI c), r2, by rw [e1]; exact .t hv hb, _, rfl, ?_⟩
    have e : (valV vs (kI c)).isSome = (valD kvs c).isSome := by
      rcases valD_rel rel c with ⟨q1, q2⟩ | ⟨d, v, q1, q2, _⟩
      · simp [q1, q2]
      · simp [q1, q2]
    rw [e]
    exact k _ _ _ _ (s1.trans s2) φ
theorem wd_dget (hu : X.A.units + 1 < cLine) (h : WD z X o Γ O fun d2 O1 => WD z X i Γ O1 fun d1 O2 => ∃ p kvs k y, d1 = tI k ∧ d2 = R p ∧ O2 p = some (oD kvs) ∧ valD kvs k = some y ∧ Φ y O2) (hs : NoSl i := by exact fun _ _ => rfl) : WD z X (.Subscript o i pos) Γ O Φ :=
  wd_of (pe_dget hu pe_w pe_w hs) fun σ H H0 Q st en k => h σ H H0 _ st en fun v2 d2 H1 O1 HH s1 r2 φ1 => φ1 σ HH H1 _ (st.trans s1) (en.mono s1.k) fun v1 d1 H2 O2 HH2 s2 r1 ⟨p, kvs, c, y, e1, e2, ho, hy, φ⟩ => by
    subst e1 e2
    have r2 : v2 = .ref p := r2
    obtain ⟨b, e1, hb⟩ := key_at s2.s r1
    obtain ⟨vs, hv, rel⟩ := own_dict s2.s ho
    rcases valD_rel rel c with ⟨q1, _⟩ | ⟨d, v, q1, q2, rv⟩
    · rw [q1] at hy; cases hy
    · rw [q1] at hy
      have hy : d = y := Option.some.inj hy
      subst hy
      refine ⟨p, v, r2, ?_, k _ d _ _ _ (s1.trans s2) rv φ⟩
      rw [e1, ← q2]
      exact .t hv hb
theorem ws_dput {p2 : Pos} (hu : X.A.units + 1 < cLine) (h : WD z X e Γ O fun y O0 => WD z X o Γ O0 fun d2 O1 => WD z X i Γ O1 fun d1 O2 => ∃ p kvs k, d1 = tI k ∧ d2 = R p ∧ O2 p = some (oD kvs) ∧ kvs.length < 100000 ∧ E.nx Γ (put O2 p (oD (putD kvs k y)))) (hs : swapsWith e (some (.Subscript o i p2)) pos.line X.env = pure false := by rfl) : WS z X (.Assign [.Subscript o i p2] e pos) Γ O E :=
  ws_of (ps_dput hu pe_w pe_w pe_w hs) fun σ H H0 D st en k => h σ H H0 _ st en fun y dy Hy Oy HHy sy ry φy => φy σ HHy Hy _ (st.trans sy) (en.mono sy.k) fun v2 d2 H1 O1 HH s1 r2 φ1 => φ1 σ HH H1 _ ((st.trans sy).trans s1) (en.mono (sy.k.trans s1.k)) fun v1 d1 H2 O2 HH2 s2 r1 ⟨p, kvs, c, e1, e2, ho, hl, φ⟩ => by
    subst e1 e2
    have r2 : v2 = .ref p := r2
    subst r2
    obtain ⟨b, e1, hb⟩ := key_at s2.s r1
    subst e1
    obtain ⟨vs, hv, rel⟩ := own_dict s2.s ho
    have hlen : vs.length = kvs.length := by
      have := Paired.length rel
      rw [List.length_map] at this
      exact this.symm
    have s3 := s2.s.write (od' := oD (putD kvs c dy)) ho ⟨_, rfl, putD_rel rel c (rp_mono (s1.k.trans s2.k) _ _ ry)⟩
    exact ⟨p, _, rfl, .t hv hb (Nat.lt_of_lt_of_le (by rw [hlen]; exact hl) (by decide)), k.nx _ _ _ _ _ (((sy.trans s1).trans s2).trans s3) (en.mono (((sy.k.trans s1.k).trans s2.k).trans s3.k)) φ⟩
end
end DL

set_option Elab.async false
set_option linter.all false
set_option maxRecDepth 100000
set_option maxHeartbeats 4000000
/-! DL7: tuple * int, sum of a tuple, repr, least, sorted, displays -/
namespace DL
open PySem PySem.Spec PyProof.Rows L2
open AutoSeq1 (wpAny_loadPart')
theorem tupMul1 (l : Addr) (items : Array Value) (n : Nat) (dd : Option Addr) (sl : Array (Option Value)) (u : Tok) :
    Meets (Builtin.«tuple.__mul__» ⟨[.ref l, .int 1 u], []⟩) (fun _ R s => s.heap.get? l = some { cls := .type "tuple", dict := dd, data := .seq items n, slots := sl } ∧ R (.ok (.ret (.ref l))) s) :=
  .of_wp fun prog w A R s h => by
    obtain ⟨hp, g, d, tk, os⟩ := s
    obtain ⟨hl, h⟩ := h
    have f1 := AutoSeq1.idx_int
    wp_walk using wpAny_loadPart' hl
    exact ⟨_, rfl, h⟩
section
variable {z : En} {X : Cx} {e a b c o i elt tg iter : Expr} {es ifs : List Expr} {st : Stmt} {sts : List Stmt} {kws : List Keyword} {Γ : Env'} {O : OHp} {Φ : Dat → OHp → Prop} {Ψ : Bool → OHp → Prop} {Θ : List Dat → OHp → Prop} {E : EnD} {pos p : Pos} {K : PySem.W.Frag}
/-- t * k, k from 1 on -/
def rRep1 (K : PySem.W.Frag) : R2 := fun x y H Q => ∃ l k xs, x = .ref l ∧ y = .int k ∧ H l = some (.tup xs) ∧ xs ≠ [] ∧ 1 ≤ k ∧ k ≤ 1000 ∧ xs.length ≤ 1000 ∧ (k = 1 → Q (.ref l) H) ∧ (2 ≤ k → ∀ p, H p = none → Q (.ref p) (upd H p (.tup (List.replicate k.toNat xs).flatten)))
theorem op_rep1 : OpR X (binaryOp .Mult) (rRep1 X.K) := by
  intro pins s σ H x y v u Q I rx ry h
  obtain ⟨l, k, xs, rfl, rfl, hT, hne, h1, h2, hz, q1, q2⟩ := h
  by_cases hk : k = 1
  · subst hk
    cases rx
    obtain ⟨t, rfl⟩ := ry
    obtain ⟨its, r, ⟨⟨cls, dd, data, sl⟩, ho, hc, n, hd⟩, hs⟩ := I.tuple (.of hT)
    simp only at hc hd
    subst hc hd
    refine wpAny_binaryOp_repeat_ref (T := "tuple") (U := "int") (by decide) ⟨_, ho, rfl⟩ (fun s' => typeIs_int s' 1 t) noFill_tuple_mul F.fills_int_mul F.slot_int_rmul repeat_tuple F.slot_int_index.lookup
      (call_meets F.slot_int_rmul (typeIs_int s 1 t) F.entry_int_rmul (F.args_int_rmul_2 _ _) (int_rmul_tuple 1 t l its.toArray n dd sl)
        ⟨ho, rfl, ⟨_, ho, rfl⟩, call_meets F.slot_tuple_mul ⟨_, ho, rfl⟩ F.entry_tuple_mul (F.args_tuple_mul_2 _ _) (tupMul1 l its.toArray n dd sl t) ⟨ho, ?_⟩⟩)
    exact ⟨.ref l, H, I, rfl, q1 rfl⟩
  · exact op_repT pins s σ H _ _ v u Q I rx ry ⟨l, k, xs, rfl, rfl, .of hT, hne, by omega, h2, hz, q2 (by omega)⟩
theorem flat_one (x : V) : ∀ n : Nat, (List.replicate n [x]).flatten = List.replicate n x
  | 0 => rfl
  | n + 1 => by rw [List.replicate_succ, List.flatten_cons, flat_one x n]; rfl
/-- (x,) * k -/
theorem rr_rep {x : V} {k : Int} (h1 : 1 ≤ k) (h2 : k ≤ 1000) (h : Φ (.tup (List.replicate k.toNat (.v x))) O) : RR z K (rRep1 K) (.tup [.v x]) (I k) O Φ := fun H H0 v1 v2 Q st r1 r2 k0 => by
  have r2 : v2 = .int k := r2
  have r1' := r1
  obtain ⟨l, vs, e1, h3, r⟩ := r1
  obtain ⟨y, e2, r⟩ := rps1 r
  have r : y = x := r
  subst r e2
  refine ⟨l, k, [y], e1, r2, st.s.k _ _ h3, by simp, h1, h2, by simp, fun q => ?_, fun q p hp => ?_⟩
  · subst q
    rw [← e1]
    exact k0 _ (.tup [.v y]) _ _ _ st.s.refl r1' h
  · rw [flat_one]
    exact newT st.s (ds := List.replicate k.toNat (.v y)) (rps_of_get (by simp) fun i d w q1 q2 => by
      rw [List.getElem?_replicate] at q1 q2
      split at q1
      · rename_i hi
        rw [if_pos hi] at q2
        cases q1; cases q2
        rfl
      · cases q1) hp h k0
/-- sum of a tuple of ints -/
theorem cr_sumT (hc : X.calm = true) : CallR X (.builtin "sum") (fun vs H Q => ∃ (a : Addr) (ns : List Int), vs = [V.ref a] ∧ SqT X.K H a (ns.map V.int) ∧ Q (.int ns.sum) H) := by
  intro pins s σ H xs us Q I r h
  obtain ⟨a, ns, rfl, hq, q⟩ := h
  obtain ⟨u, rfl, rx⟩ := vals1 r
  cases rx
  obtain ⟨its, rv, ht, hz⟩ := I.tuple hq
  have hi : IntsAre its ns := intsAre_of rv
  obtain ⟨xs, e⟩ := hi.allInts.items
  have hn : numsOf (intItems xs).toList = ns := by rw [← e]; exact hi.numsOf
  rw [nums_intItems] at hn
  rw [e] at ht
  have htl : a < s.heap.objs.size := ht.lt
  refine call_sum_walkG (wpAny_pyIter_tuple (show s.heap.IsTuple a (intItems xs) from ht) ?_)
  refine ⟨s.heap.objs.size, _, _, _, _, _, numAt xs, rfl, Walks.tuple (A := X.A.in1) (I.ok.hd hc) s.heap.objs.size a (Nat.ne_of_lt htl) (intItems xs), ?_, ?_, (fun _ _ => intItems_at), fun h' tk t' hk => ?_⟩
  · exact ⟨⟨_, Heap.get?_push_size _ rfl, rfl, rfl⟩, (show s.heap.IsTuple a (intItems xs) from ht).push _⟩
  · intro b hb
    show b < (s.heap.push _).objs.size
    rw [Heap.size_push]
    rcases (by simpa using hb : b = s.heap.objs.size ∨ b = a) with z | z
    · rw [z]; exact Nat.lt_succ_self _
    · rw [z]; exact Nat.lt_succ_of_lt htl
  · refine ⟨.int ns.sum, H, I.kept fun b o q => hk b o (fun m => ?_) (Heap.get?_push_of_some _ q), ⟨t', ?_⟩, q⟩
    · have : b = s.heap.objs.size := by simpa using m
      rw [this] at q
      exact Nat.lt_irrefl _ (Heap.lt_size q)
    · have e2 : (intItems xs).size = xs.size := by simp [intItems]
      rw [e2, preSum_eq, List.take_of_length_le (by simp), hn]
theorem wd_sumT (hm : X.mg "sum" = none) (h : WD z X e Γ O fun d O1 => ∃ ns : List Int, d = tI ns ∧ Φ (I ns.sum) O1) (hc : X.calm = true := by rfl) (hg : Gl X "sum" := by rfl) (hs : starEach (e :: []) X.env = (false, eval e X.env) :: starEach [] X.env := by rfl) : WD z X (.Call (.Name "sum" p) [e] [] pos) Γ O Φ :=
  wd_callB (cr_sumT hc) hm (by decide +kernel) (wa_1 (rd_imp h fun d O1 ⟨ns, s, φ⟩ => fun H H0 vs Q st r k => by
    subst s
    obtain ⟨x, e, a, ws, e2, hq, rr⟩ := rps1 r
    rw [rps_ints rr] at hq
    exact ⟨a, ns, by rw [e, e2], .of (st.s.k _ _ hq), k _ (I _) _ _ _ st.s.refl rfl φ⟩) hs) hg (by decide) (by decide) hs rfl
/-! ### repr of an int, of None -/
theorem call_repr_non : CallR X (.builtin "repr") (fun xs H Q => xs = [.non] ∧ Q (.str "None") H) := by
  intro pins s σ H xs us Q I r h
  obtain ⟨rfl, q⟩ := h
  obtain ⟨u, rfl, rx⟩ := vals1 r
  cases rx
  exact PySem.P.repr_of_none ⟨.str "None", H, I.tok _, ⟨_, rfl⟩, q⟩
def reprD : Dat → Str
  | .v (.int i) => toString i
  | _ => "None"
theorem wd_repr (hm : X.mg "repr" = none) (h : WD z X e Γ O fun d O1 => (d = N ∨ ∃ i : Int, d = I i ∧ i.natAbs.log2 < 1920) ∧ Φ (S (reprD d)) O1) (hg : Gl X "repr" := by rfl) (hs : starEach (e :: []) X.env = (false, eval e X.env) :: starEach [] X.env := by rfl) : WD z X (.Call (.Name "repr" p) [e] [] pos) Γ O Φ :=
  wd_callB (CallR.or SkE.call_repr_int call_repr_non) hm (by decide +kernel) (wa_1 (rd_imp h fun d O1 ⟨s, φ⟩ => fun H H0 vs Q st r k => by
    obtain ⟨x, e, r⟩ := rps1 r
    rcases s with s | ⟨i, s, hl⟩
    · subst s
      have r : x = .non := r
      exact .inr ⟨by rw [e, r], k _ (S _) _ _ _ st.s.refl rfl φ⟩
    · subst s
      have r : x = .int i := r
      exact .inl ⟨i, by rw [e, r], hl, k _ (S _) _ _ _ st.s.refl rfl φ⟩) hs) hg (by decide) (by decide) hs rfl
/-! ### min of a list of data -/
theorem minD_mem (x : PyData) : ∀ xs : List PyData, PySem.W.minD x xs ∈ x :: xs
  | [] => by simp [PySem.W.minD]
  | y :: xs => by
    have h1 : PySem.W.minD x (y :: xs) = PySem.W.minD (if PySem.W.dataLt y x then y else x) xs := rfl
    rw [h1]
    rcases List.mem_cons.mp (minD_mem (if PySem.W.dataLt y x then y else x) xs) with h | h
    · rw [h]
      split
      · exact List.mem_cons_of_mem _ List.mem_cons_self
      · exact List.mem_cons_self
    · exact List.mem_cons_of_mem _ (List.mem_cons_of_mem _ h)
def rMinD (K : PySem.W.Frag) : List V → Hp → VK → Prop := fun vs H Q => ∃ (a : Addr) (xs : List V) (d : PyData) (ds : List PyData), vs = [.ref a] ∧ SqL K H a xs ∧ DpAll K H xs (d :: ds) ∧ PySem.W.AlikeAll (d :: ds) ∧ PyData.depthAll (d :: ds) ≤ 60 ∧
  ∀ (i : Nat) x, xs[i]? = some x → (d :: ds)[i]? = some (PySem.W.minD d ds) → Q x H
theorem cr_minD (hc : X.calm = true) (hu : X.A.units + 64 < cLine) : CallR X (.builtin "min") (rMinD X.K) := by
  intro pins s σ H vs us Q I r h
  obtain ⟨a, xs, d, ds, rfl, hq, hd, ha, hz, q⟩ := h
  obtain ⟨u, rfl, rx⟩ := vals1 r
  cases rx
  obtain ⟨its, rv, pl, _⟩ := I.list hq
  obtain ⟨as, hr⟩ := Dp.readsAll I (d :: ds) xs its hd rv
  refine PySem.W.min_list_data (vs := its.toArray) (I.ok.hd hc) pl.isList (by simpa using hr) ha (by omega) fun i v h' tk bs hv r2 hk => ?_
  have hv : its[i]? = some v := by simpa using hv
  have hi := (List.getElem?_eq_some_iff.mp hv).1
  have hl := rv.length
  obtain ⟨x, hx⟩ : ∃ x, xs[i]? = some x := ⟨xs[i]'(by omega), List.getElem?_eq_getElem (by omega)⟩
  obtain ⟨v', hv', rx⟩ := rv.get hx
  rw [hv] at hv'
  cases hv'
  obtain ⟨cs, h1, h2, h3, _⟩ := PySem.W.readsAll_at hr i v (by simpa using hv)
  have e := PySem.W.alike_unique _ _ v _ _ (ha.1 _ h3 _ (minD_mem d ds)) (Reads.keeps hk h1) r2
  refine ⟨x, H, I.kept hk, rx, q i x hx ?_⟩
  rw [← e, List.getD_eq_getElem?_getD, List.getElem?_eq_getElem h2]
  rfl
theorem dpAll_of {H0 H : Hp} (sm : Same H0 H) {ds : List Dat} {vs : List V} (h : isPs 59 ds = true) (r : rps K H0 ds vs) : DpAll K H vs (toPs ds) := dps_of sm ds 59 vs h r
theorem toPs_get : ∀ (ds : List Dat) (i : Nat), (toPs ds)[i]? = (ds[i]?).map toP
  | [], i => by simp [toPs]
  | d :: ds, 0 => by simp [toPs]
  | d :: ds, i + 1 => by simp [toPs, toPs_get ds i]
/-- min(xs): the least of the data -/
theorem wd_minD (hm : X.mg "min" = none) (hu : X.A.units + 64 < cLine) (h : WD z X e Γ O fun d O1 => ∃ y ys, Sees O1 d (y :: ys) ∧ isPs 59 (y :: ys) = true ∧ PySem.W.AlikeAll (toPs (y :: ys)) ∧ ∀ w, w ∈ y :: ys → toP w = PySem.W.minD (toP y) (toPs ys) → Φ w O1) (hc : X.calm = true := by rfl) (hg : Gl X "min" := by rfl) (hs : starEach (e :: []) X.env = (false, eval e X.env) :: starEach [] X.env := by rfl) : WD z X (.Call (.Name "min" p) [e] [] pos) Γ O Φ :=
  wd_callB (cr_minD hc hu) hm (by decide +kernel) (wa_1 (rd_imp h fun d O1 ⟨y, ys, s, hP, ha, φ⟩ => fun H H0 vs Q st r k => by
    obtain ⟨x, e, r⟩ := rps1 r
    obtain ⟨a, ws, e2, hq, rr⟩ := s.at st.s r
    have ha : PySem.W.AlikeAll (toP y :: toPs ys) := by simpa [toPs] using ha
    refine ⟨a, ws, toP y, toPs ys, by rw [e, e2], .of hq, by simpa [toPs] using dpAll_of st.s.k hP rr, ha, ?_, fun i x hx hi => ?_⟩
    · have := depths_of (y :: ys) 59 hP
      have e3 : toPs (y :: ys) = toP y :: toPs ys := by simp [toPs]
      rw [e3] at this
      omega
    · obtain ⟨w, hw, rw'⟩ := rps_get' rr hx
      have e3 : toP y :: toPs ys = toPs (y :: ys) := by simp [toPs]
      rw [e3, toPs_get, hw] at hi
      exact k _ w _ _ _ st.s.refl rw' (φ w (List.mem_of_getElem? hw) (Option.some.inj hi))) hs) hg (by decide) (by decide) hs rfl
/-! ### sorted of crowds -/
def leC (a b : List Int) : Bool := !decide (b < a)
def encC (b : V × List Int) : PyData := .tuple (b.2.map .int)
theorem le_encC (p q : V × List Int) : PySem.W.dataLe false encC p q = leC p.2 q.2 := by
  show (!PySem.W.dataLt (encC q) (encC p)) = _
  unfold encC leC
  rw [PySem.W.dataLt_tuple]
  show (!PySem.W.rowLt (q.2.map .int) (p.2.map .int)) = _
  rw [PySem.W.dataLt_ints]
def rSortC (K : PySem.W.Frag) : List V → Hp → VK → Prop := fun vs H Q => ∃ (a : Addr) (zs : List (V × List Int)), vs = [.ref a] ∧ SqL K H a (zs.map (·.1)) ∧ (∀ b ∈ zs, Dp K H b.1 (encC b) ∧ b.2 ≠ []) ∧
  ∀ p (ws : List (V × List Int)), H p = none → ws.Perm zs → ws.map (·.2) = (zs.map (·.2)).mergeSort leC → Q (.ref p) (upd H p (.lst (ws.map (·.1))))
theorem each_zs {R : Value → (V × List Int) → Prop} : ∀ {zs : List (V × List Int)} {us : List Value}, Vals (zs.map (·.1)) us → (∀ b ∈ zs, ∀ u, RelV b.1 u → R u b) → PySem.W.EachIs R us zs
  | [], _, r, _ => by rw [List.map_nil] at r; cases r; exact .nil
  | b :: zs, _, r, h => by
    rw [List.map_cons] at r
    cases r with
    | cons r t => exact .cons (h b List.mem_cons_self _ r) (each_zs t fun b hb => h b (List.mem_cons_of_mem _ hb))
theorem vals_each : ∀ {zs : List (V × List Int)} {us : List Value}, PySem.W.EachIs (fun u b => RelV b.1 u) us zs → Vals (zs.map (·.1)) us
  | [], _, r => by cases r; exact .nil
  | b :: zs, _, r => by
    cases r with
    | cons r t => exact .cons r (vals_each t)
theorem cr_sortC (hu : X.A.units + 64 < cLine) : CallR X (.builtin "sorted") (rSortC X.K) := by
  intro pins s σ H vs us Q I r h
  obtain ⟨a, zs, rfl, hq, hd, q⟩ := h
  obtain ⟨u, rfl, rx⟩ := vals1 r
  cases rx
  obtain ⟨its, rv, pl, hz⟩ := I.list hq
  rw [List.length_map] at hz
  refine PySem.W.sorted_data (enc := encC) (bs := zs) (vs := its) (R := fun u b => RelV b.1 u) pl.isList (each_zs rv fun b _ u r => r) (each_zs rv fun b hb u r => Dp.reads I _ _ _ (hd b hb).1 r) ?_ ?_ hz ?_ fun out ho eo => ?_
  · exact PySem.W.AllAlike.of fun b b' => by
      show PySem.W.alike (.tuple (b.2.map .int)) (.tuple (b'.2.map .int)) = true
      rw [PySem.W.alike]
      exact PySem.W.alike_ints _ _
  · refine .inl fun d hd' => ?_
    obtain ⟨b, hb, rfl⟩ := List.mem_map.mp hd'
    unfold encC
    cases hb2 : b.2 with
    | nil => exact absurd hb2 (hd b hb).2
    | cons x r => exact ⟨.int x, r.map .int, rfl⟩
  · intro b _
    show X.A.units + 2 + PyData.depth (.tuple (b.2.map .int)) < cLine
    have : PyData.depth (.tuple (b.2.map .int)) = 1 := by simp only [PyData.depth, PySem.W.depth_ints]
    omega
  · obtain ⟨ep, he'⟩ := PyProof.Rows.sortedAll_at s.heap its out.toArray
    have hv := vals_each eo
    have hperm := List.mergeSort_perm zs (PySem.W.dataLe false encC)
    have hlen : ((zs.mergeSort (PySem.W.dataLe false encC)).map (·.1)).length ≤ sizeLine := by rw [List.length_map, hperm.length_eq]; exact hz
    refine ⟨.ref (s.heap.objs.size + 1), _, I.laid (t' := s.toks) (fun _ _ => PyProof.Rows.sortedAll_old) (Nat.le_succ _) (show ObjOk X.prog X.w _ _ _ (.lst _) from ⟨hlen, out, ep, hv, he'⟩), rfl, q _ _ (I.hok.fresh (Nat.le_succ _)) hperm ?_⟩
    exact PySem.W.sort_maps (·.2) fun a _ b _ => le_encC a b
/-- sorted(xs) of crowds -/
theorem wd_sortC (hm : X.mg "sorted" = none) (hu : X.A.units + 64 < cLine) (h : WD z X e Γ O fun d O1 => ∃ cs : List (List Int), Sees O1 d (cs.map tI) ∧ (∀ c ∈ cs, c ≠ []) ∧ NewL O1 ((cs.mergeSort leC).map tI) Φ) (hg : Gl X "sorted" := by rfl) (hs : starEach (e :: []) X.env = (false, eval e X.env) :: starEach [] X.env := by rfl) : WD z X (.Call (.Name "sorted" p) [e] [] pos) Γ O Φ :=
  wd_callB (cr_sortC hu) hm (by decide +kernel) (wa_1 (rd_imp h fun d O1 ⟨cs, s, hne, φ⟩ => fun H H0 vs Q st r k => by
    obtain ⟨x, e, r⟩ := rps1 r
    obtain ⟨a, ws, e2, hq, rr⟩ := s.at st.s r
    have hl : ws.length = cs.length := by rw [rps_len rr, List.length_map]
    have e3 : (ws.zip cs).map (·.1) = ws := by rw [List.map_fst_zip (by omega)]
    have e4 : (ws.zip cs).map (·.2) = cs := by rw [List.map_snd_zip (by omega)]
    have at_ : ∀ b ∈ ws.zip cs, rp X.K H0 (tI b.2) b.1 ∧ b.2 ∈ cs := fun b hb => by
      obtain ⟨i, hi⟩ := List.getElem?_of_mem hb
      rw [List.getElem?_zip_eq_some] at hi
      obtain ⟨y, q1, q2⟩ := rps_get rr (i := i) (d := tI b.2) (by rw [List.getElem?_map, hi.2]; rfl)
      rw [hi.1] at q1
      cases q1
      exact ⟨q2, List.mem_of_getElem? hi.2⟩
    refine ⟨a, ws.zip cs, by rw [e, e2], by rw [e3]; exact .of hq, fun b hb => ⟨?_, hne _ (at_ b hb).2⟩, fun p us hp hperm hsrt => newL st.s ?_ hp φ k⟩
    · have := dp_of st.s.k (tI b.2) 60 b.1 (isP_tI 59 b.2) (at_ b hb).1
      have e5 : toP (tI b.2) = encC b := by
        show toP (.tup (b.2.map I)) = _
        simp only [toP, toPs_ints, encC]
      rw [e5] at this
      exact this
    · rw [e4] at hsrt
      rw [← hsrt, List.map_map]
      have : ∀ us : List (V × List Int), (∀ b ∈ us, b ∈ ws.zip cs) → rps X.K H0 (us.map (tI ∘ (·.2))) (us.map (·.1)) := by
        intro us
        induction us with
        | nil => intro _; rfl
        | cons b us ih => intro hb; exact ⟨_, _, rfl, (at_ b (hb b List.mem_cons_self)).1, ih fun b' hb' => hb b' (List.mem_cons_of_mem _ hb')⟩
      exact this us fun b hb => hperm.mem_iff.mp hb) hs) hg (by decide) (by decide) hs rfl
/-! ### x in (..) of flat things; stars; a display with one key -/
theorem rr_inT {K : PySem.W.Frag} {neg : Bool} {x : V} {xs : List V} (h1 : flatV x = true) (h2 : xs.all flatV = true) (h : Φ (B (if neg then !inV x xs else inV x xs)) O) : RR z K (rIn K neg) (.v x) (.tup (xs.map Dat.v)) O Φ := fun H H0 v1 v2 Q st r1 r2 k => by
  have r1 : v1 = x := r1
  subst r1
  obtain ⟨a, vs, e, h3, rr⟩ := tup_at st.s r2
  rw [rps_vs_eq rr] at h3
  exact ⟨a, xs, e, .inr (.of h3), h1, h2, k _ (B _) _ _ _ st.s.refl rfl h⟩
theorem wa_star {p2 : Pos} (h : WD z X e Γ O fun d O1 => ∃ ds, d = .tup ds ∧ WA z X es Γ O1 fun es' O2 => Θ (ds ++ es') O2) (hs : starEach (.Starred e p2 :: es) X.env = (true, eval e X.env) :: starEach es X.env := by rfl) : WA z X (.Starred e p2 :: es) Γ O Θ :=
  wa_of (StX.pa_star pe_w pa_w hs) fun σ H H0 Q st en k => h σ H H0 _ st en fun v d H1 O1 HH s1 r1 ⟨ds, e, φ⟩ => by
    subst e
    obtain ⟨a, vs, e, h1, rr⟩ := r1
    exact ⟨a, vs, e, .inl (.of (s1.s.k _ _ h1)), φ σ HH H1 _ (st.trans s1) (en.mono s1.k) fun us es' H2 O2 HH2 s2 r2 q => k _ _ _ _ _ (s1.trans s2) (rps_append (rps_mono s2.k _ _ rr) r2) q⟩
end
end DL

set_option Elab.async false
set_option linter.all false
set_option maxRecDepth 100000
set_option maxHeartbeats 4000000
/-! DLX: an own exception over ValueError whose __init__ says super().__init__(text) and stores at -/
namespace DL
open PySem PySem.Spec PyProof.Rows L2
/-- the def __init__ of such a class D, as the written part has it -/
structure SupIn (P : Program) (K : PySem.W.Frag) (fI : Addr) (D cc cda : Addr) (qual : Str) (params : Arguments) (scope : Scope) (body : List Stmt) (fd : FuncData) : Prop where
  f : ∃ oc od osl dV kV doc pm an ct, fd = PySem.W.ksFn "__init__" qual params body scope dV kV doc pm an (.ref cda) ct cc ∧ K.lookup fI = some ⟨oc, od, .func fd, osl⟩
  cd : PySem.W.codeIn K (.ref cda) qual = true
  sc : scope.kind = .function ∧ scope.isCoroutine = false ∧ scope.isGenerator = false ∧ (∀ x ∈ scope.names, x.2 ≠ .cell) ∧ scope.names.lookup ("self" : Str) = some .local ∧ scope.names.lookup ("at" : Str) = some .local ∧ scope.names.lookup ("super" : Str) = some .globalImplicit ∧ scope.names.lookup ("__class__" : Str) = some .free ∧
    (∀ x, scope.names.lookup x = some .free → x = "__class__") ∧ (∀ x, scope.names.lookup x ≠ some .cell)
  ar : ∃ ar : Arg, (params.posonlyargs ++ params.args).head? = some ar ∧ ar.arg = "self"
  co : ∃ c dd vs sl file tf, K.lookup cda = some ⟨c, dd, .fields vs, sl⟩ ∧ vs[2]? = some (.str file tf) ∧ ((P.main.file : Str) == file) = true
  cl : ∃ c dd sl, K.lookup cc = some ⟨c, dd, .cell (some (.ref D)), sl⟩
  top : (P.main.scope.names.lookup ("super" : Str)).isSome = false
  cls : ∃ cd, PySem.W.clsIn K D = some cd
/-- what the class D itself must be -/
structure SupC (K : PySem.W.Frag) (D : Addr) : Prop where
  sub : PySem.W.mroIn K D (.ref D) = some true
  opq : PySem.W.nsIn K PySem.cStatics "thirdparty.any" = some none
  sup : PySem.W.ks_superIn K D D "__init__" = some (some (.builtin "ValueError.__init__"))
  ve : PySem.W.subIn K (.ref D) (.type "ValueError") = some true
section
variable {P : Program} {w : World} {K : PySem.W.Frag} {mg : Str → Option Value} {base : Heap} {CX : CXT}
/-- the context of its body -/
def cxS (P : Program) (w : World) (K : PySem.W.Frag) (mg : Str → Option Value) (base : Heap) (qual : Str) (scope : Scope) (f : Addr) (cda cc : Addr) (A : Around) (outer : List Env) (s : Shared) (H : Hp) (E : Value → Shared → Prop) : Cx where
  prog := P
  w := w
  K := K
  mg := mg
  base := base
  A := A.deeper (PySem.W.ksEnv qual scope s.heap.objs.size f (.ref cda) cc)
  N := ["self", "at"]
  s_0 := s
  H_0 := H
  env := PySem.W.ksEnv qual scope s.heap.objs.size f (.ref cda) cc
  outer := outer
  stack := PySem.W.ksEnv qual scope s.heap.objs.size f (.ref cda) cc :: outer
  ex := []
  calm := true
  fn := fun x => decide (x ≠ "__class__")
  pn := []
  xe := E
theorem fn_sup {k : Nat} {fI D cc cda : Addr} {qual : Str} {params : Arguments} {scope : Scope} {fd : FuncData} {txt : Str} {j j2 : Nat} {p0 p1 p2 p3 p4 p5 p6 p7 p8 p9 : Pos} {sp : Sp}
    (T : SupIn P K fI D cc cda qual params scope [.Expr (.Call (.Attribute (.Call (.Name "super" p0) [] [] p1) "__init__" p2) [.Constant (.str txt) j p3] [] p4) p5, .Assign [.Attribute (.Name "self" p6) "at" p7] (.Name "at" p8) p9] fd)
    (pl : Addr → Sem Bool) (he : ∀ L, eval (.Call (.Attribute (.Call (.Name "super" p0) [] [] p1) "__init__" p2) [.Constant (.str txt) j p3] [] p4) (PySem.W.ksEnv qual scope L fI (.ref cda) cc) = (do
      let ov ← attributeBase (.Call (.Name "super" p0) [] [] p1) "__init__" (PySem.W.ksEnv qual scope L fI (.ref cda) cc) (eval (.Call (.Name "super" p0) [] [] p1) (PySem.W.ksEnv qual scope L fI (.ref cda) cc))
      standAt p2.atName
      let (f, first) ← holding [ov] (getMethod ov "__init__" (pl L))
      callWith p4 f first (backTo p4 (starEach [.Constant (.str txt) j p3] (PySem.W.ksEnv qual scope L fI (.ref cda) cc))) []))
    (hin : ∀ L, interactive (PySem.W.ksEnv qual scope L fI (.ref cda) cc) = false)
    (hsw : ∀ L, swapsWith (.Call (.Attribute (.Call (.Name "super" p0) [] [] p1) "__init__" p2) [.Constant (.str txt) j p3] [] p4) none p5.line (PySem.W.ksEnv qual scope L fI (.ref cda) cc) = pure false)
    (hsw2 : ∀ L, swapsWith (.Name "at" p8) (some (.Attribute (.Name "self" p6) "at" p7)) p9.line (PySem.W.ksEnv qual scope L fI (.ref cda) cc) = pure false)
    (TC : SupC K D) (hmg : mg "super" = none) (hat : PySem.W.findIn K (.ref D) "at" = some none) (TO : OexC K D)
    (hsp : ∀ vs H Q E, sp vs H Q E → ∃ a v, vs = [.ref a, v] ∧ H a = some (exo a D none) ∧ ∀ dx, H dx = none → dx ≠ a → Q .non (upd (upd H dx (exd dx [("at", v)])) a (exo a D (some dx)))) : FnOk P w K mg base CX (k + 1) fI fd ["self", "at"] sp := by
  refine ⟨fun vs H Q E h => by obtain ⟨a, v, e, _⟩ := hsp _ _ _ _ h; rw [e]; rfl, fun A outer s H args us vs Q E hr e0 hb r hs => ?_⟩
  obtain ⟨a, v, rfl, ha, hq⟩ := hsp _ _ _ _ hs
  obtain ⟨oc, od, osl, dV, kV, doc, pm, an, ct, rfl, lk⟩ := T.f
  obtain ⟨f1, f2, f3, f4, f5, f6, f7, f8, f9, f10⟩ := T.sc
  obtain ⟨cc1, cc2, cc3, hcc⟩ := T.cl
  obtain ⟨dc1, dc2, dvs, dc3, file, tf, hcda, hfile, hfile2⟩ := T.co
  obtain ⟨cdD, hD⟩ := T.cls
  obtain ⟨ar, har, harn⟩ := T.ar
  have KX : K.In s.heap := e0.mod.kin.keeps fun b o e => (e0.bs b o e).1
  have lim : s.heap.NoLimit := e0.mod.nolimit.keeps fun b o e => (e0.bs b o e).1
  cases r with
  | @cons _ ua _ ur ra rr =>
  cases rr with
  | @cons _ uv _ ur2 rv rr2 =>
  cases rr2
  have ra : ua = .ref a := ra
  subst ra
  have hccs := KX _ _ hcc
  refine PySem.ks_codeAny_call_defAt (fd := PySem.W.ksFn "__init__" qual params _ scope dV kV doc pm an (.ref cda) ct cc) (binds := [(Str.ofString "self", .ref a), (Str.ofString "at", uv)]) hr.depth (KX _ _ lk) rfl lim (PySem.W.codeRec_of KX T.cd) rfl hb f4 (fun x hx => ?_) (fun h1 hns hk => ?_) f2 f3 f1
  · rcases (by simpa using hx : x = (Str.ofString "self", Value.ref a) ∨ x = (Str.ofString "at", uv)) with e | e
    · rw [e]; exact f5
    · rw [e]; exact f6
  have I : Inv (cxS P w K mg base qual scope fI cda cc A outer s H fun e s' => wpAny (model P w) (A.deeper (PySem.W.ksEnv qual scope s.heap.objs.size fI (.ref cda) cc)) (leaving (PySem.W.ksEnv qual scope s.heap.objs.size fI (.ref cda) cc) e) (fun _ s'' => CX outer H s E e s'') (fun e' s'' => CX outer H s E e' s'') s') [] [some (.ref a), some v] H { s with heap := h1, toks := s.toks + 2 } := by
    have cl1 : ∀ y c, (cxS P w K mg base qual scope fI cda cc A outer s H fun e s' => wpAny (model P w) (A.deeper (PySem.W.ksEnv qual scope s.heap.objs.size fI (.ref cda) cc)) (leaving (PySem.W.ksEnv qual scope s.heap.objs.size fI (.ref cda) cc) e) (fun _ s'' => CX outer H s E e s'') (fun e' s'' => CX outer H s E e' s'') s').env.cells.lookup y = some c → y = "__class__" ∧ c = cc := fun y c h => by
      have h : List.lookup y [(("__class__" : Str), cc)] = some c := h
      simp only [List.lookup_cons, List.lookup_nil] at h
      split at h
      · rename_i q
        exact ⟨by simpa using q, (Option.some.inj h).symm⟩
      · cases h
    have hbs : ∀ b o, K.lookup b = some o → s.heap.get? b = some o ∧ H b = none := fun b o e => e0.bs b o (e0.mod.kin b o e)
    refine ⟨⟨e0.mod, f1, rfl, rfl, Nat.le_refl _, fun x y c h1 h2 => by rw [(cl1 _ _ h1).1, (cl1 _ _ h2).1], fun y hy => ?_, fun y c hy h => ?_, fun _ => hr.hd, Around.frames_deeper e0.frames, .inr ⟨rfl, rfl⟩, fun b z => absurd z (by simp [cxS]), e0.bs, e0.bsz, fun b _ _ => by simp [cxS], fun b z => absurd z (by simp [cxS]), e0.funs, e0.frf⟩,
      rfl, e0.bare, Un.kept hk, ⟨_, hns, fun i y v' h1 h2 h3 => ?_⟩, fun y c h => ?_, e0.hok.fresh (Nat.le_refl _), fun y c h => ?_, fun p hp => absurd hp (by simp [cxS]), e0.hok.kept hk, rfl⟩
    · rcases hy with hy | hy
      · exact absurd hy (f10 y)
      · rw [f9 y hy]; exact ⟨cc, rfl⟩
    · have e := (cl1 y c h).1
      subst e
      exact absurd hy (by show ¬ decide ((("__class__" : Str)) ≠ "__class__") = true; simp)
    · match i, h1, h2 with
      | 0, h1, h2 =>
        have h1 : ("self" : Str) = y := Option.some.inj h1
        have h2 : V.ref a = v' := Option.some.inj (Option.some.inj h2)
        subst h1 h2
        exact ⟨.ref a, rfl, .inl ⟨f5, rfl⟩⟩
      | 1, h1, h2 =>
        have h1 : ("at" : Str) = y := Option.some.inj h1
        have h2 : v = v' := Option.some.inj (Option.some.inj h2)
        subst h1 h2
        exact ⟨uv, rv, .inl ⟨f6, rfl⟩⟩
      | n + 2, h1, h2 => simp [cxS] at h1
    · rw [(cl1 y c h).2]
      exact ⟨some (.ref D), _, hk _ _ hccs, rfl⟩
    · rw [(cl1 y c h).2]
      exact (hbs _ _ hcc).2
  generalize hE : (fun e s' => wpAny (model P w) (A.deeper (PySem.W.ksEnv qual scope s.heap.objs.size fI (.ref cda) cc)) (leaving (PySem.W.ksEnv qual scope s.heap.objs.size fI (.ref cda) cc) e) (fun _ s'' => CX outer H s E e s'') (fun e' s'' => CX outer H s E e' s'') s') = EE at I
  show _root_.PySem.wpAt _ _ _ _ _ (fun e s' => wpAny (model P w) (A.deeper (PySem.W.ksEnv qual scope s.heap.objs.size fI (.ref cda) cc)) (leaving (PySem.W.ksEnv qual scope s.heap.objs.size fI (.ref cda) cc) e) (fun _ s'' => CX outer H s E e s'') (fun e' s'' => CX outer H s E e' s'') s') _
  rw [hE]
  generalize hX : cxS P w K mg base qual scope fI cda cc A outer s H EE = X at I
  have hXK : X.K = K := by rw [← hX]; rfl
  have hXp : X.prog = P := by rw [← hX]; rfl
  have hXw : X.w = w := by rw [← hX]; rfl
  have hXA : X.A = A.deeper (PySem.W.ksEnv qual scope s.heap.objs.size fI (.ref cda) cc) := by rw [← hX]; rfl
  have hXe : X.env = PySem.W.ksEnv qual scope s.heap.objs.size fI (.ref cda) cc := by rw [← hX]; rfl
  have hXx : X.xe = EE := by rw [← hX]; rfl
  have hXm : X.mg = mg := by rw [← hX]; rfl
  suffices main : ∀ s1 : Shared, Inv X [] [some (.ref a), some v] H s1 → s1.heap.Ns s.heap.objs.size (fun x => [(Str.ofString "self", Value.ref a), (Str.ofString "at", uv)].reverse.lookup x) →
      _root_.PySem.wpAt (model P w) (A.deeper (PySem.W.ksEnv qual scope s.heap.objs.size fI (.ref cda) cc)) (.func [.Expr (.Call (.Attribute (.Call (.Name "super" p0) [] [] p1) "__init__" p2) [.Constant (.str txt) j p3] [] p4) p5, .Assign [.Attribute (.Name "self" p6) "at" p7] (.Name "at" p8) p9] (PySem.W.ksEnv qual scope s.heap.objs.size fI (.ref cda) cc))
        (execs [.Expr (.Call (.Attribute (.Call (.Name "super" p0) [] [] p1) "__init__" p2) [.Constant (.str txt) j p3] [] p4) p5, .Assign [.Attribute (.Name "self" p6) "at" p7] (.Name "at" p8) p9] (PySem.W.ksEnv qual scope s.heap.objs.size fI (.ref cda) cc))
        (fun f s' => CR CX outer P w H s Q E (.ok (.ret (match f with | .ret v => v | _ => .none))) s') EE s1 from main _ I hns
  clear I
  intro s1 I hns1
  refine PySem.ks_wpAt_execs_cons (PySem.ks_wpAt_Expr_any (PySem.ks_wpAt_MethodCall ?_ (he _)) (hin _) (hsw _))
  have K1 : K.In s1.heap := by have := I.kIn; rw [hXK] at this; exact this
  obtain ⟨oD, hD1, hD2⟩ : ∃ oD, s1.heap.get? D = some oD ∧ oD.data = .cls cdD := by
    unfold PySem.W.clsIn at hD
    split at hD
    · rename_i c d cd' sl ho
      cases hD
      exact ⟨_, K1 _ _ ho, rfl⟩
    · cases hD
  obtain ⟨t1, hoe⟩ := exo_at I.hok ha
  refine PySem.ks_wpAt_super_base (env := PySem.W.ksEnv qual scope s.heap.objs.size fI (.ref cda) cc) f7 f8 (by decide) rfl (K1 _ _ lk) rfl har rfl (K1 _ _ hcda) rfl hfile hfile2 T.top ?_
  have hglob := I.mod.glob
  obtain ⟨mb, hb1, hb2⟩ := I.mod.blt
  refine PySem.W.ks_loadName_global f1 f7 (PySem.Calls.loadGlobal_builtin (env := PySem.W.ksEnv qual scope s.heap.objs.size fI (.ref cda) cc) (hglob.keeps I.bk) (by rw [hXm]; exact hmg) (hb1.keeps I.bk) ((hb2 _ (by decide)).trans PyProof.Rows.Boot.super) ⟨rfl, ?_⟩)
  refine wpAny_loadName_free f1 f8 rfl ⟨_, K1 _ _ hcc, rfl⟩ ?_
  rw [harn]
  refine wpAny_loadName_local f1 f5 hns1 rfl ?_
  obtain ⟨hp1, g1, d1, tk1, os1⟩ := s1
  refine PySem.ks_wpAny_isType_cls hD1 hD2 ⟨rfl, ?_⟩
  refine PySem.ks_wpAny_call_super hD1 hD2 hoe rfl (fun c e => by cases e) (PySem.W.looks_mroIn K1 TC.sub) (fun h' e k' => ?_)
  -- .__init__
  have I2 : Inv X [] [some (.ref a), some v] H ⟨h', g1, d1, tk1, os1⟩ := I.kept (t' := tk1) k'
  have K2 : K.In h' := fun b o q => k' _ _ (K1 b o q)
  have hoe2 := k' _ _ hoe
  have IA : PySem.W.InstAt h' a _ D none := ⟨hoe2, rfl, rfl, trivial⟩
  have hsupI := TC.sup
  unfold PySem.W.ks_superIn at hsupI
  rw [hD] at hsupI
  refine PySem.W.kxs_getMethod PySem.W.kxs_ValueError (K := K) e (PySem.W.looks_opaque K2 TC.opq) (l₀ := cdD.mro) (fun A Q E s k q => wpAny_bind ((PySem.W.looks_clsIn K2 hD) A _ E s k (wpAny_pure q))) rfl K2 hsupI (IA.type.andThen (PySem.W.looks_subIn K2 TC.ve)) (PySem.W.ks_ne K2 IA hD) (by decide) ?_
  -- the call
  have kp : ∀ b o, h'.get? b = some o → (h'.push (PySem.W.kxs_mw "ValueError.__init__" a)).get? b = some o := fun b o q => Heap.get?_push_of_some _ q
  have hu : (h'.push (PySem.W.kxs_mw "ValueError.__init__" a)).get? h'.objs.size = some (PySem.W.kxs_mw "ValueError.__init__" a) := Heap.get?_push_at rfl rfl
  have I3 : Inv X [] [some (.ref a), some v] H ⟨h'.push (PySem.W.kxs_mw "ValueError.__init__" a), g1, d1, tk1 + 1, os1⟩ := I2.kept (t' := tk1 + 1) kp
  obtain ⟨fp0, fp1, fp2, _⟩ := I2.fpOk (H' := H) (Nat.le_refl _) (I2.hok.fresh (Nat.le_refl _))
  have I4 : Inv X [(h'.objs.size, PySem.W.kxs_mw "ValueError.__init__" a)] [some (.ref a), some v] H ⟨h'.push (PySem.W.kxs_mw "ValueError.__init__" a), g1, d1, tk1 + 1, os1⟩ := I3.pins_of fun p hp => by
    have hp := List.mem_singleton.mp hp
    rw [hp]
    exact ⟨hu, fp0, fp1, fp2, fun v z => by cases z⟩
  have PA1 : PA X [.Constant (.str txt) j p3] (tCons (tC (.str txt)) tNil) := pa_cons pe_str pa_nil rfl
  have e1 : ∀ env : Env, starEach [.Constant (.str txt) j p3] env = (false, eval (.Constant (.str txt) j p3) env) :: starEach [] env := fun _ => rfl
  have fin : ∀ us s2, (∃ vs H1, Inv X [(h'.objs.size, PySem.W.kxs_mw "ValueError.__init__" a)] [some (.ref a), some v] H1 s2 ∧ Vals vs us ∧ vs = [.str txt] ∧ H1 = H) → PySem.W.KxsAt "ValueError.__init__" h'.objs.size a s2.heap ∧
      wpAny (model P w) (A.deeper (PySem.W.ksEnv qual scope s.heap.objs.size fI (.ref cda) cc)) (call (.ref h'.objs.size) us) (fun _ s' => _root_.PySem.wpAt (model P w) (A.deeper (PySem.W.ksEnv qual scope s.heap.objs.size fI (.ref cda) cc)) (.func [.Expr (.Call (.Attribute (.Call (.Name "super" p0) [] [] p1) "__init__" p2) [.Constant (.str txt) j p3] [] p4) p5, .Assign [.Attribute (.Name "self" p6) "at" p7] (.Name "at" p8) p9] (PySem.W.ksEnv qual scope s.heap.objs.size fI (.ref cda) cc))
        (execs [.Assign [.Attribute (.Name "self" p6) "at" p7] (.Name "at" p8) p9] (PySem.W.ksEnv qual scope s.heap.objs.size fI (.ref cda) cc))
        (fun f s' => CR CX outer P w H s Q E (.ok (.ret (match f with | .ret v => v | _ => .none))) s') EE s') EE s2 := by
    rintro us s2 ⟨vs, H1, J, rv2, rfl, hH⟩
    rw [hH] at J
    have pin := (J.pin (h'.objs.size, PySem.W.kxs_mw "ValueError.__init__" a) (by simp)).1
    refine ⟨pin, ?_⟩
    have hz : us.length ≤ sizeLine := by rw [← Paired.length rv2, sizeLine_eq]; simp
    obtain ⟨t2, hoe3⟩ := exo_at J.hok ha
    obtain ⟨nm, q, N, bs, bm, sn, sub, ab, col, dd, k0, k1, k2, k3, k5, hC, hbm⟩ := TO.cls
    have K3 : K.In s2.heap := by have := J.kIn; rw [hXK] at this; exact this
    obtain ⟨hp3, g3, d3, tk3, os3⟩ := s2
    refine wpAny_call (codeAny_of_tree ?_)
    show wpAny _ _ (callAny (.ref h'.objs.size) ⟨us, []⟩) _ _ _
    simp only [callAny]
    refine wpAny_bind (wpAny_load pin ?_)
    simp only [PySem.W.kxs_mw, show (Value.type "method-wrapper" == Value.type "method" || Value.type "method-wrapper" == Value.type "builtin_function_or_method" || Value.type "method-wrapper" == Value.type "method-wrapper") = true by decide, if_true]
    refine PySem.W.KFB.if_so (by decide) ?_
    refine wpAny_bind (PySem.W.check_bound_init PySem.F.excBase_ValueError.toExcCallFacts (K3 _ _ hC) hoe3 rfl ?_)
    refine wpAny_bind (wpAny_pure (wpAny_pure ?_))
    refine ⟨plainId_quiet PySem.F.excBase_ValueError.init.plain _, codeAny_builtin PySem.F.excBase_ValueError.initEntry ?_⟩
    refine PySem.W.exc_init_tree (cls := .ref D) (t0 := t2) (dv := none) (c2 := .none) (c3 := .none) (b4 := .bool false) hoe3 hz fun h4 k4 e4 _ => ?_
    have J2 := J.write (t' := tk3) (x := a) (e := a) (o := exo a D none) (by rw [ha]; exact True.intro) (.inl rfl) k4 ⟨_, e4⟩ (exo_ok e4)
    have eu : upd H a (exo a D none) = H := by
      funext b
      by_cases hb : b = a
      · rw [hb, upd_same, ha]
      · rw [upd_ne hb]
    rw [eu] at J2
    have ex : wpAny (model P w) (A.deeper (PySem.W.ksEnv qual scope s.heap.objs.size fI (.ref cda) cc)) (execs [.Assign [.Attribute (.Name "self" p6) "at" p7] (.Name "at" p8) p9] (PySem.W.ksEnv qual scope s.heap.objs.size fI (.ref cda) cc))
        (fun f s' => CR CX outer P w H s Q E (.ok (.ret (match f with | .ret v => v | _ => .none))) s') EE ⟨h4, g3, d3, tk3, os3⟩ := by
      subst hX
      have hps : PSs (cxS P w K mg base qual scope fI cda cc A outer s H EE) [.Assign [.Attribute (.Name "self" p6) "at" p7] (.Name "at" p8) p9] (tOst K "at" (tVar 0) (tVar 1)) :=
        pss_one (ps_ost (pv 0 rfl (.inl f5)) (pv 1 rfl (.inl f6)) (hsw2 _))
      refine wpAny_mono (hps.run _ _ _ _ { nx := fun _ H2 => ∃ dx, H dx = none ∧ dx ≠ a ∧ H2 = upd (upd H dx (exd dx [("at", v)])) a (exo a D (some dx)), rt := fun _ _ => False } J2 ⟨v, rfl, .ref a, rfl, a, D, rfl, TO, hat, .inl ⟨ha, fun dx n ne => ⟨dx, n, ne, rfl⟩⟩⟩) (fun fl s' hs => ?_) fun e s' hs => hs
      cases fl with
      | ret u => obtain ⟨_, _, _, _, _, q⟩ := hs; exact False.elim q
      | next =>
        obtain ⟨σ', H', J3, dx, n, ne, e⟩ := hs
        subst e
        exact ⟨.non, _, J3.os, J3.bare, J3.base, J3.hok, rfl, hq dx n ne⟩
      | brk => obtain ⟨_, _, _, q⟩ := hs; exact False.elim q
      | cont => obtain ⟨_, _, _, q⟩ := hs; exact False.elim q
    exact wpAt_of_wpAny ex
  have h0 : wpAny (model P w) (A.deeper (PySem.W.ksEnv qual scope s.heap.objs.size fI (.ref cda) cc)) (spliced (backTo p4 (starEach [.Constant (.str txt) j p3] (PySem.W.ksEnv qual scope s.heap.objs.size fI (.ref cda) cc)))) (fun us s2 => PySem.W.KxsAt "ValueError.__init__" h'.objs.size a s2.heap ∧
      wpAny (model P w) (A.deeper (PySem.W.ksEnv qual scope s.heap.objs.size fI (.ref cda) cc)) (call (.ref h'.objs.size) us) (fun _ s' => _root_.PySem.wpAt (model P w) (A.deeper (PySem.W.ksEnv qual scope s.heap.objs.size fI (.ref cda) cc)) (.func [.Expr (.Call (.Attribute (.Call (.Name "super" p0) [] [] p1) "__init__" p2) [.Constant (.str txt) j p3] [] p4) p5, .Assign [.Attribute (.Name "self" p6) "at" p7] (.Name "at" p8) p9] (PySem.W.ksEnv qual scope s.heap.objs.size fI (.ref cda) cc))
        (execs [.Assign [.Attribute (.Name "self" p6) "at" p7] (.Name "at" p8) p9] (PySem.W.ksEnv qual scope s.heap.objs.size fI (.ref cda) cc))
        (fun f s' => CR CX outer P w H s Q E (.ok (.ret (match f with | .ret v => v | _ => .none))) s') EE s') EE s2) EE ⟨h'.push (PySem.W.kxs_mw "ValueError.__init__" a), g1, d1, tk1 + 1, os1⟩ := by
    have := PA1.run p4 _ _ _ _ (fun vs H1 => vs = [.str txt] ∧ H1 = H) I4 ⟨rfl, rfl⟩
    rw [hXp, hXw, hXA, hXe, hXx] at this
    exact wpAny_mono this (fun us s2 q => fin us s2 (by obtain ⟨vs, H1, J, r, e1, e2⟩ := q; exact ⟨vs, H1, J, r, e1, e2⟩)) fun _ _ z => z
  rw [e1] at h0 ⊢
  exact PySem.W.kxs_callWith (i := "ValueError.__init__") (x := a) rfl (PySem.Calls.evalArgs_plain h0)
end
end DL

set_option Elab.async false
set_option linter.all false
set_option maxRecDepth 100000
set_option maxHeartbeats 4000000
/-! DLT: several clauses "except C as n", the name the same in all (the library has one clause with a name, or several without); over KE.KExcHand's clause -/
namespace DL
open PySem PySem.Spec PyProof.Rows L2
/-- the ends of a suite behind which slot i is emptied -/
def emptied (i : Nat) (D : Ends) : Ends := { nx := fun σ H => D.nx (σ.set i none) H, rt := D.rt, bk := fun σ H => D.bk (σ.set i none) H, ct := fun σ H => D.ct (σ.set i none) H }
/-- what the clauses ask of an exception: the first that bears it answers, its suite with the exception in slot i -/
def wClauses (K : PySem.W.Frag) (i : Nat) (D : Ends) : List (Value × (Addr → Value → Option Addr → TS)) → WX
  | [] => fun _ _ _ _ => False
  | q :: r => fun cls d σ H => ∃ hit, PySem.W.exmOne K cls q.1 = some hit ∧ (hit = true → ∀ a, H a = none → q.2 a cls d (emptied i D) (σ.set i (some (.ref a))) H) ∧ (hit = false → wClauses K i D r cls d σ H)
/-- clauses whose suites are read -/
inductive Clauses (X : Cx) (n : Str) : List ExceptHandler → List (Value × (Addr → Value → Option Addr → TS)) → Prop
  | nil : Clauses X n [] []
  | cons {x : Str} {c : Value} {ts : Addr → Value → Option Addr → TS} {one : Stmt} {more : List Stmt} {p1 p2 : Pos} {others : List ExceptHandler} {l : List (Value × (Addr → Value → Option Addr → TS))} (named : Names X x c)
      (reads : ∀ (a : Addr) (ob : Obj) (cls : Value) (d : Option Addr) (pn : List (Addr × Obj)), Zc cls d ob → (∃ vs, ob.data = .fields vs) → PSs (X.suite a ((a, ob) :: pn)) (one :: more) (ts a cls d)) (tail : Clauses X n others l) :
      Clauses X n (.ExceptHandler (some (.Name x p1)) (some n) (one :: more) p2 :: others) ((c, ts) :: l)
/-- the exception at a is caught and at rest in s: beside it stands the state of the body, kept by the ground B -/
structure Caught (X : Cx) (pins : List (Addr × Obj)) (a : Addr) (cls : Value) (d : Option Addr) (σ : L2.St) (H : Hp) (s : Shared) : Prop where
  ex : ∃ (B : Heap) (sI : Shared), Inv X pins σ H sI ∧ (∀ b o, sI.heap.get? b = some o → b ∉ frs X.stack → B.get? b = some o) ∧ HandSPX.FlyingZ B X.stack a (Zc cls d) s.heap ∧ sI.heap.UpToSlots s.heap ∧ s.os = sI.os ∧ AllBare s.gens
  new : H a = none
section
variable {X : Cx} {pins : List (Addr × Obj)} {a : Addr} {cls : Value} {d : Option Addr} {σ : L2.St} {H : Hp} {s : Shared} {n : Str} {i : Nat} {D : Ends}
theorem Caught.inv (c : Caught X pins a cls d σ H s) : Inv X pins σ H s := by
  obtain ⟨B, sI, inv, old, fly, up, os, bare⟩ := c.ex
  exact inv.landed old fly.1 up os bare
/-- its mark is taken away once more -/
theorem Caught.again {M : Model} {A : Around} {E : Value → Shared → Prop} (c : Caught X pins a cls d σ H s) : wpAny M A (setFlight (.ref a) none) (fun _ s' => Caught X pins a cls d σ H s') E s := by
  obtain ⟨B, sI, inv, old, fly, up, os, bare⟩ := c.ex
  exact HandSPX.lands_againZ fly fun h fly' up' => ⟨⟨B, sI, inv, old, fly', up.trans up', os, bare⟩, c.new⟩
/-- a suite may begin -/
theorem Caught.enter (c : Caught X pins a cls d σ H s) (st : X.stack = X.env :: X.outer) (fr : X.env.frame = some X.env.locals) : ∃ ob, s.heap.get? a = some ob ∧ Zc cls d ob ∧ (∃ vs, ob.data = .fields vs) ∧ Inv (X.suite a ((a, ob) :: (X.pn ++ pins))) [] σ H s := by
  have whole := c.inv
  obtain ⟨B, sI, _, _, fly, _⟩ := c.ex
  obtain ⟨ob, vs, here, kept, fields⟩ := fly.there
  have noFrame : ∀ f ∈ X.stack, f.frame ≠ some a := fun f hf e => by
    obtain ⟨_, ob', here', bad⟩ := fly.2.2.1.mem (List.mem_filterMap.mpr ⟨f, hf, e⟩)
    cases here.symm.trans here'
    exact bad _ fields
  refine ⟨ob, here, kept, ⟨vs, fields⟩, whole.suite here fields c.new (fun e => ?_) fun e => ?_⟩
  · exact noFrame X.env (by rw [st]; exact List.mem_cons_self) (by rw [fr, e])
  · obtain ⟨f, hf, q⟩ := List.mem_filterMap.mp e
    exact noFrame f (by rw [st]; exact List.mem_cons_of_mem _ hf) q
/-- behind the suite the name goes -/
theorem suite_left {q : Addr × Obj} {pos : Pos} {f : Flow} (ok : X.Ok) (nd : X.N.Nodup) (at_ : X.N[i]? = some n) (loc : X.env.kindOf n = some .local) (S : SP (X.suite a (q :: (X.pn ++ pins))) [] (emptied i D) f s) :
    wpAny (model X.prog X.w) X.A (do bindName X.env n .none; unbindBehindTheSuite X.env n pos) (fun _ s' => SP X pins D f s') X.xe s := by
  cases f with
  | ret u =>
    obtain ⟨v, _, _, inv, r, e⟩ := S
    exact gone_ok (inv.unsuite ok) nd at_ loc fun _ J => ⟨v, _, _, J, r, e⟩
  | _ =>
    obtain ⟨_, _, inv, e⟩ := S
    exact gone_ok (inv.unsuite ok) nd at_ loc fun _ J => ⟨_, _, J, e⟩
/-- the clauses, one after the other -/
theorem clauses_run (c : Caught X pins a cls d σ H s) (st : X.stack = X.env :: X.outer) (fr : X.env.frame = some X.env.locals) (nd : X.N.Nodup) (at_ : X.N[i]? = some n) (loc : X.env.kindOf n = some .local) {hs : List ExceptHandler} {l : List (Value × (Addr → Value → Option Addr → TS))}
    (read : Clauses X n hs l) (wish : wClauses X.K i D l cls d σ H) : wpAny (model X.prog X.w) X.A (handleBy (.ref a) X.env hs) (SP X pins D) X.xe s := by
  induction read with
  | nil => exact wish.elim
  | cons named reads tail ih =>
    obtain ⟨hit, match_, yes, no⟩ := wish
    obtain ⟨ob, here, kept, fields, inS⟩ := c.enter st fr
    have isOf : PySem.W.Looks (model X.prog X.w) s.heap (typeOf (.ref a)) cls := fun A Q E s' k q => wpAny_typeOf_ref (k _ _ here) (by rw [kept.1]; exact q)
    have rest := PySem.W.exm_one (M := model X.prog X.w) c.inv.kIn isOf match_
    -- what follows the test
    have behind : ∀ {E : Value → Shared → Prop} {F : Value → Shared → Prop} {one : Stmt} {more : List Stmt} {ts : Addr → Value → Option Addr → TS} {p2 : Pos}, (∀ (a : Addr) (ob : Obj) (cls : Value) (d : Option Addr) (pn : List (Addr × Obj)), Zc cls d ob → (∃ vs, ob.data = .fields vs) → PSs (X.suite a ((a, ob) :: pn)) (one :: more) (ts a cls d)) →
        ts a cls d (emptied i D) (σ.set i (some (.ref a))) H → wpAny (model X.prog X.w) (X.A.mark (some (.ref a))) (setFlight (.ref a) none) (fun _ s1 => wpAny (model X.prog X.w) (X.A.mark (some (.ref a))) (storeName X.env n (.ref a)) (fun _ s2 =>
          wpAny (model X.prog X.w) (X.A.mark (some (.ref a))) (execs (one :: more) X.env) (fun f s3 => wpAny (model X.prog X.w) X.A (do bindName X.env n .none; unbindBehindTheSuite X.env n p2) (fun _ s4 => SP X pins D f s4) X.xe s3) F s2) E s1) E s := fun {E F one more ts p2} reads run => by
      refine wpAny_mono c.again (fun _ s1 c1 => ?_) fun _ _ z => z
      obtain ⟨ob1, _, kept1, fields1, in1⟩ := c1.enter st fr
      refine store_ok (X := X.suite a ((a, ob1) :: (X.pn ++ pins))) (v := .ref a) in1 nd at_ (.inl loc) rfl (fun s2 in2 => ?_) (.inr loc)
      exact wpAny_mono ((reads a ob1 cls d (X.pn ++ pins) kept1 fields1).run [] s2 _ H _ in2 run) (fun f s3 S => suite_left c.inv.ok nd at_ loc S) fun _ _ z => z.elim
    refine PySem.W.exc_clause_as ?_
    have tested : ∀ {Q : Value → Shared → Prop} {E : Value → Shared → Prop} {v : Value} {x : Str} {p1 : Pos}, Names X x v → Q v s → wpAny (model X.prog X.w) (X.A.mark (some (.ref a))) (eval (.Name x p1) X.env) Q E s := fun nm q =>
      match nm with
      | ⟨g1, g2, .inl g3⟩ => ld_glob (X := X.suite a ((a, ob) :: (X.pn ++ pins))) inS g1 g3 q g2
      | ⟨g1, g2, .inr ⟨g3, g4, g5⟩⟩ => ld_blt (X := X.suite a ((a, ob) :: (X.pn ++ pins))) inS g1 g3 g4 q g5 g2
    refine tested named ⟨hit, rest, ?_⟩
    cases hit with
    | true => exact behind reads (yes rfl a c.new)
    | false => exact ih (no rfl)
end
section
variable {X : Cx} {body : List Stmt} {h0 : ExceptHandler} {hs : List ExceptHandler} {l : List (Value × (Addr → Value → Option Addr → TS))} {pos : Pos} {tb : WX → TS} {n : Str} {i : Nat}
theorem ps_tryAs (st : X.stack = X.env :: X.outer) (fr : X.env.frame = some X.env.locals) (nd : X.N.Nodup) (at_ : X.N[i]? = some n) (loc : X.env.kindOf n = some .local)
    (hb : ∀ (W : WX) (pn : List (Addr × Obj)) (xe : Value → Shared → Prop), Takes (X.tr pn xe) W → PSs (X.tr pn xe) body (tb W)) (read : Clauses X n (h0 :: hs) l) : PS X (.Try body (h0 :: hs) [] [] pos) (fun D σ H => tb (wClauses X.K i D l) D σ H) := by
  refine ⟨fun pins s σ H D inv start => wpAny_Try_except ?_⟩
  have ok := inv.ok
  have inFrame : X.A.frames = some (X.env :: X.outer) := by rw [← st]; exact ok.frames
  refine wpAny_mono ((hb (wClauses X.K i D l) (X.pn ++ pins) (fun e sA => wpAny (model X.prog X.w) X.A (noteFrame e X.env) (fun _ sB => wpAny (model X.prog X.w) X.A (setFlight e none) (fun _ sC => wpAny (model X.prog X.w) X.A (handleBy e X.env (h0 :: hs)) (SP X pins D) X.xe sC) X.xe sB) X.xe sA) ?_).run [] s σ H D (inv.toTry _) start)
    (fun f s1 out => ?_) fun _ _ z => z
  · -- an exception of the body
    intro u s' ⟨a, B, sI, pins', σ', H', cls, d, e, inv', old, up, sky, new, os, bare, wish⟩
    subst e
    have sky' : Sky B (X.env :: X.outer) a (Zc cls d) X.env.locals s'.heap := st ▸ sky
    refine Sky.land (Q := fun _ sC => wpAny (model X.prog X.w) X.A (handleBy (.ref a) X.env (h0 :: hs)) (SP X pins D) X.xe sC) Zc.steady inFrame fr sky' fun h fly up' => clauses_run (s := { s' with heap := h }) ⟨⟨B, sI, inv'.ofTry ok, old, ?_, up.trans up', os, bare⟩, new⟩ st fr nd at_ loc read wish
    rw [st]
    exact fly
  · -- the body's own ends
    cases f with
    | next => obtain ⟨_, _, J, q⟩ := out; exact wpAny_execs_nil ⟨_, _, J.ofTry ok, q⟩
    | ret u => obtain ⟨v, _, _, J, r, q⟩ := out; exact ⟨v, _, _, J.ofTry ok, r, q⟩
    | brk => obtain ⟨_, _, J, q⟩ := out; exact ⟨_, _, J.ofTry ok, q⟩
    | cont => obtain ⟨_, _, J, q⟩ := out; exact ⟨_, _, J.ofTry ok, q⟩
end
end DL

set_option Elab.async false
set_option linter.all false
set_option maxRecDepth 100000
set_option maxHeartbeats 4000000
/-! DLR: raise C(e); f(lambda: ..) where f tells what was raised -/
namespace DL
open PySem PySem.Spec PyProof.Rows L2
/-- what C.__init__ does -/
def spSup (C : Addr) : Sp := fun vs H Q _ => ∃ a v, vs = [.ref a, v] ∧ H a = some (exo a C none) ∧ ∀ dx, H dx = none → dx ≠ a → Q .non (upd (upd H dx (exd dx [("at", v)])) a (exo a C (some dx)))
structure Exc1 (P : Program) (w : World) (K : PySem.W.Frag) (mg : Str → Option Value) (base : Heap) (x : Str) (C : Addr) : Prop where
  o : OexC K C
  ex : ∃ fI fd, PySem.W.findIn K (.ref C) "__init__" = some (some (.ref fI)) ∧ PySem.W.typeIn K (.ref fI) = some (.type "function") ∧ FnOk P w K mg base CX0 1 fI fd ["self", "at"] (spSup C) ∧ Binds K fd ["self", "at"] []
  m : mg x = some (.ref C)
section
variable {z : En} {X : Cx} {e a b c o i elt tg iter : Expr} {es ifs : List Expr} {st : Stmt} {sts : List Stmt} {kws : List Keyword} {Γ : Env'} {O : OHp} {Φ : Dat → OHp → Prop} {Ψ : Bool → OHp → Prop} {Θ : List Dat → OHp → Prop} {E : EnD} {pos p : Pos} {K : PySem.W.Frag}
/-- raise C(e) -/
theorem ws_raise {x : Str} {C : Addr} {p1 p2 : Pos} {EX : XK} {Ξ : Addr → Dat → OHp → Prop} (T : Exc1 X.prog X.w X.K X.mg X.base x C) (hr : Room 2 X.A) (tk : Takes X (fun cls d _ H => EX cls d H)) (lk : Lk z X.K EX Ξ)
    (h : WD z X e Γ O fun d O1 => Ξ C d O1) (hc : X.calm = true := by rfl) (hg : Gl X x := by rfl) (hdb : (x == ("__debug__" : Str)) = false := by decide) (hs : starEach (e :: []) X.env = (false, eval e X.env) :: starEach [] X.env := by rfl) :
    WS z X (.Raise (some (.Call (.Name x p1) [e] [] p2)) none pos) Γ O E := by
  obtain ⟨fI, fd, h1, h2, F, hb⟩ := T.ex
  refine ws_of (ps_raise hc tk (pmk_oex T.o h1 h2 F hr hb .nil pass0 hg T.m (pa_cons pe_w pa_nil hs) hdb hs rfl)) fun σ H H0 D so en k => ?_
  refine h σ H H0 _ so en fun v d H1 O1 HH s r φ => ⟨by simp, fun a ha => ⟨a, v, rfl, upd_same, fun dx hdx hne => ⟨rfl, dx, [("at", v)], upd_same, by rw [upd_ne hne, upd_same], by rw [upd_ne hne] at hdx; exact hdx, ?_⟩⟩⟩
  rw [upd_ne hne] at hdx
  have eH : upd (L2.del (upd (upd (upd HH a (exo a C none)) dx (exd dx [("at", v)])) a (exo a C (some dx))) a) dx (.xd [("at", v)]) = upd HH dx (.xd [("at", v)]) := by
    funext b
    by_cases hb : b = dx
    · rw [hb, upd_same, upd_same]
    · rw [upd_ne hb, upd_ne hb]
      by_cases ha2 : b = a
      · rw [ha2, L2.del_same, ha]
      · rw [L2.del_ne ha2, upd_ne ha2, upd_ne hb, upd_ne ha2]
  rw [eH]
  have s2 := s.s.new (o := .xd [("at", v)]) hdx (fun ps q => by cases q)
  exact lk C dx v d _ O1 _ ((so.trans s).trans s2) upd_same (rp_mono s2.k _ _ r) φ
/-- a bigger heap, the same data -/
theorem StOk.bigger {T : List (Addr × Str)} {H0 H H1 : Hp} (s : StOk T K H0 O H) (e : LamX.ExtN H H1) (t : LamX.Tabs T H1) : Step T K H0 O H H0 O H1 :=
  ⟨Same.refl _, ⟨fun a o q => e a o (s.k a o q) (fun ps z => s.n a ps (by rw [q, z])), fun a od q => by
    obtain ⟨h0, ho, h1, r⟩ := s.o a od q
    exact ⟨h0, ho, e a ho h1 (rpO_ntbl r), r⟩, t, s.n⟩, fun a o q n nt => ⟨e a o q nt, n, id⟩⟩
/-- the clauses' classes and what is told of each -/
def TTref (l : List (Addr × Str)) : (XK → Hp → VK → Prop) → Hp → VK → Prop := fun tl H Q =>
  tl (fun cls d H' => ∃ C t dd v, (C, t) ∈ l ∧ cls = .ref C ∧ d = some dd ∧ H' dd = some (.xd [("at", v)]) ∧ ∀ p, H' p = none → Q (.ref p) (upd H' p (.tup [.str t, v]))) H (fun _ H' => Q .non H')
/-- f(lambda: body), f telling what was raised -/
theorem wd_lam {l T' : List (Addr × Str)} {x a : Str} {g c P : Addr} {k : Nat} {pg : Arguments} {bg : List Stmt} {sg : Scope} {dV kV doc pm cdv ct oc : Value} {an od : Option Addr} {osl : Array (Option Value)} {Ng : List Str}
    {params : Arguments} {body : Expr} {scope : Scope} {lpos : Pos} (hk : PySem.W.keepIn X.K (.ref g) = true)
    (lk : X.K.lookup g = some ⟨oc, od, .func (PySem.W.fnOf x x pg bg sg dV kV doc pm an cdv ct), osl⟩) (hcg : PySem.W.codeIn X.K cdv x = true) (hb : L2.Binds X.K (PySem.W.fnOf x x pg bg sg dV kV doc pm an cdv ct) [a] []) (Sg : FnScope Ng [a] sg) (hNg : Ng[0]? = some a) (hva : Vis sg a)
    (hG : LamX.GivesTo X Ng x sg g cdv bg a (X.env.qual ++ "<lambda>") (TTref l)) (hm : X.mg x = some (.ref g))
    (TB : LamX.TabB X.base X.mg c P) (hcode : X.env.code = .ref c) (hmT : (P, X.env.qual ++ "<lambda>") ∈ z.T) (hu : ∀ p ∈ z.T, p.1 = P → p.2 = X.env.qual ++ "<lambda>") (hr : Room (k + 2) X.A) (L : LamX.LamS X.env.scope scope)
    (h : ∀ (H0' H' : Hp) (A : Around) (outer : List Env) (s : Shared) (H'' : Hp) (E : XK) (f c' : Addr), Room k (A.deeper (LamX.lamEnv X scope s.heap.objs.size f c')) → Lk ⟨z.T, H0', O, H'⟩ X.K E (fun C d O' => ∃ t, (C, t) ∈ l ∧ Φ (.tup [S t, d]) O') →
      WD ⟨z.T, H0', O, H'⟩ (LamX.lamCx X A outer s H'' E scope f c') body Γ O fun _ O' => Φ N O')
    (hdef : defaultsOf params X.env = ([], []) := by rfl)
    (hbind : ∀ (q : Str) (cl : List (Str × Addr)) (pm cv ctv : Value), bindArgs (PySem.W.kla_fn "<lambda>" q params body scope cl pm cv ctv) ⟨[], []⟩ = pure [] := by intro _ _ _ _ _; rfl)
    (hg : Gl X x := by rfl) (hdb : (x == ("__debug__" : Str)) = false := by decide) (hd : (a == ("__debug__" : Str)) = false := by decide) (hcd : (a == ("__classdict__" : Str)) = false := by decide) :
    WD z X (.Call (.Name x p) [.Lambda params body scope lpos] [] pos) Γ O Φ := by
  refine wd_of (LamX.pe_lamcall (T := z.T) (TT := TTref l) (k := k) (t := fun E σ H Q => ∀ (A : Around) (outer : List Env) (s : Shared) (H'' : Hp) (f c' : Addr), Room k (A.deeper (LamX.lamEnv X scope s.heap.objs.size f c')) → wE (LamX.lamCx X A outer s H'' E scope f c') body σ H Q)
    hg hm hk lk hcg hb Sg hNg hva hG TB hcode hmT hu hr L hdef hbind (fun A outer s H'' E f c' r => ⟨fun pins s' σ H Q I q => (q A outer s H'' f c' r pins s' I).out⟩) hdb hd hcd) fun σ H H0 Q st en kt => ⟨st.s.t, fun H1 ex t1 A outer s H'' f c' r => ?_⟩
  have sb := st.s.bigger ex t1
  refine h H0 H1 A outer s H'' _ f c' r (fun C d x xd H0' O' H' sa hd' rx ⟨t, mem, φ⟩ => ⟨C, t, d, x, mem, rfl, rfl, hd', fun p hp => ?_⟩) σ H1 H0 _ sb.s.refl en fun v d H0' O' H' sa r φ => kt _ N H0' O' H' (sb.trans sa) rfl φ
  have s2 := sa.s.new (o := .tup [.str t, x]) hp (fun ps q => by cases q)
  exact kt _ (.tup [S t, xd]) _ O' _ ((sb.trans sa).trans s2) ⟨p, _, rfl, upd_same, rps_cons rfl (rps_one (rp_mono s2.k _ _ rx))⟩ φ
end
end DL

set_option Elab.async false
set_option linter.all false
set_option maxRecDepth 100000
set_option maxHeartbeats 4000000
/-! DL8: {crowd: v}; f(k=v, ..); three targets; own class; a def in a local name -/
namespace DL
open PySem PySem.Spec PyProof.Rows L2
section
variable {z : En} {X : Cx} {e a b c o i ke ve elt tg iter : Expr} {es ifs : List Expr} {st : Stmt} {sts : List Stmt} {kws : List Keyword} {Γ : Env'} {O : OHp} {Φ : Dat → OHp → Prop} {Ψ : Bool → OHp → Prop} {Θ : List Dat → OHp → Prop} {E : EnD} {pos p : Pos} {K : PySem.W.Frag}
/-- {(..): y} -/
def tDict1 (tk tv : TE) : TE := fun σ H Q => ∀ p, H p = none → tPairs [(tk, tv)] σ (upd H p (.dT [])) fun ps H2 => ∃ x y, ps = [(x, y)] ∧ H2 p = some (.dT []) ∧ ∃ (ks : List Key) (b : Addr), x = .ref b ∧ H2 b = some (.tup (ks.map kV)) ∧ Q (.ref p) (upd H2 p (.dT [(ks, y)]))
theorem pe_dict1 {tk tv : TE} (hu : X.A.units + 1 < cLine) (hk : PE X ke tk) (hv : PE X ve tv) : PE X (.Dict [some ke] [ve] pos) (tDict1 tk tv) := by
  constructor
  intro pins s σ H Q I q
  have new := I.hok.fresh (Nat.le_refl s.heap.objs.size)
  have I1 := I.laid (a := s.heap.objs.size) (o := .dT []) (h' := s.heap.push { cls := .type "dict", data := .dict #[] }) (t' := s.toks) (fun _ _ q => Heap.get?_push_of_some _ q) (Nat.le_refl _) (dt_empty s.heap I.big)
  rw [arm_eval_Dict, zip_pairTrees [some ke] [ve] X.env pos rfl rfl, dictDisplay_pairs _ (by simp [pairTrees]) (by simp [pairTrees])]
  refine wpAny_bind (wpAny_standAt (wpAny_bind (wpAny_subDictH (knd := tupleKind (mixKind X.prog X.w)) (Q := fun d s' => wpAny (model X.prog X.w) X.A (pure (Value.ref d)) (EP X pins σ Q) X.xe s') (show X.A.units < cLine by omega) (by simp [pairTrees]) ?_)))
  refine thn ((pps_cons hk hv pps_nil).run pins _ σ _ _ I1 (q _ new)) fun ws s2 ⟨ps, H2, I2, rel, x, y, e1, hd, ks, bk, e2, hb, q2⟩ => ?_
  subst e1 e2
  cases rel with
  | @cons _ w1 _ ws2 h1 t1 =>
  cases t1
  obtain ⟨w1k, w1v⟩ := w1
  obtain ⟨hz, hsm, xs, r0, dd⟩ := dt_of I2.hok hd
  cases r0
  have h1k : w1k = .ref bk := h1.1
  refine ⟨[(ks, bk, w1v)], ⟨h1k, rfl, key_of I2.hok hb, trivial⟩, dd, fun h' tk' dd' hs => wpAny_pure ⟨.ref s.heap.objs.size, _, ?_, rfl, q2⟩⟩
  obtain ⟨o1, es1, ep1, g1, g2, g3, g4, g5, g6⟩ := id dd'
  refine d_write I2 (by rw [hd]; exact True.intro) hs ⟨_, g1⟩ ⟨by rw [sizeLine_eq]; simp, hsm, [(ks, bk, w1v)], .cons ⟨rfl, ?_, h1.2⟩ .nil, o1, es1, ep1, g1, g2, g3, g4, g6⟩
  show upd H2 s.heap.objs.size _ bk = _
  rw [upd_ne (ne_of hb hd (fun z => by cases z))]
  exact hb
/-- {(..): y}, owned -/
theorem wd_dict1 (hu : X.A.units + 1 < cLine) (h : ∀ p, O p = none → WD z X ke Γ (put O p (oD [])) fun d O1 => ∃ k, d = tI k ∧ WD z X ve Γ O1 fun y O2 => O2 p = some (oD []) ∧ Φ (R p) (put O2 p (oD [(k, y)]))) : WD z X (.Dict [some ke] [ve] pos) Γ O Φ :=
  wd_of (pe_dict1 hu pe_w pe_w) fun σ H H0 Q st en kt p hp => by
    have s0 := st.s.own (od := oD []) (o := .dT []) hp ⟨[], rfl, .nil⟩
    have h' := h p (st.s.fresh hp).2
    refine h' σ _ H0 _ (st.trans s0) en fun v1 d1 H1 O1 HH s1 r1 ⟨k, e1, φ1⟩ => ?_
    subst e1
    refine φ1 σ HH H1 _ ((st.trans s0).trans s1) (en.mono s1.k) fun v2 d2 H2 O2 HH2 s2 r2 ⟨ho, φ2⟩ => ?_
    obtain ⟨b, e, hb⟩ := key_at s2.s (rp_mono s2.k _ _ r1)
    obtain ⟨vs, hv, rel⟩ := own_dict s2.s ho
    cases rel
    refine ⟨v1, v2, rfl, hv, kI k, b, e, hb, ?_⟩
    have s3 := s2.s.write (od' := oD [(k, d2)]) (o := .dT [(kI k, v2)]) ho ⟨_, rfl, .cons ⟨rfl, r2⟩ .nil⟩
    exact kt _ (R p) _ _ _ (((s0.trans s1).trans s2).trans s3) rfl φ2
/-! ### f(k = v, ..), the keywords written in the reverse order of the parameters -/
structure CalR (P : Program) (w : World) (K : PySem.W.Frag) (mg : Str → Option Value) (base : Heap) (T : List (Addr × Str)) (CX : CXT) (x : Str) (k : Nat) (ps : List Str) (dsp : DSp) : Prop where
  ex : ∃ f fd, FnOk P w K mg base CX k f fd ps (lift T K dsp) ∧ mg x = some (.ref f) ∧ PySem.W.keepIn K (.ref f) = true ∧ KBn K fd ps 0 ps.reverse (fun _ ws => ws.reverse) (fun _ zs => zs.reverse)
theorem CalR.mono {P : Program} {w : World} {K : PySem.W.Frag} {mg : Str → Option Value} {base : Heap} {T : List (Addr × Str)} {CX : CXT} {x : Str} {j k : Nat} {ps : List Str} {dsp : DSp} (c : CalR P w K mg base T CX x j ps dsp) (h : j ≤ k) : CalR P w K mg base T CX x k ps dsp := by
  obtain ⟨f, fd, F, a, b, c⟩ := c.ex
  exact ⟨f, fd, F.mono h, a, b, c⟩
theorem wd_callR {x : Str} {k : Nat} {ps : List Str} {dsp : DSp} {Ξ : Addr → Dat → OHp → Prop} {EX : XK} (G : CalR X.prog X.w X.K X.mg X.base z.T (L2.CX X.prog X.w) x k ps dsp) (hr : Room k X.A) (hx : Passes (L2.CX X.prog X.w) X EX) (lk : Lk z X.K EX Ξ)
    (h : WK z X kws Γ O fun ds O1 => ds.length = ps.length ∧ dsp ds.reverse O1 Φ Ξ) (hg : Gl X x := by rfl) (hdb : (x == ("__debug__" : Str)) = false := by decide) (hall : (backToKw pos (keywordEach kws X.env)).all (·.1.isSome) = true := by rfl)
    (hks : (backToKw pos (keywordEach kws X.env)).filterMap (·.1) = ps.reverse := by rfl) (hpl : ((backTo pos (starEach [] X.env)).any (·.1) || (backToKw pos (keywordEach kws X.env)).any (·.1.isNone)) = false := by rfl) : WD z X (.Call (.Name x p) [] kws pos) Γ O Φ := by
  obtain ⟨f, fd, F, hm, hk, hb⟩ := G.ex
  intro σ H H0 Q st en kt pins s I
  constructor
  refine wpAny_Call_Name_kw (ld_glob I hg hm ?_ hdb)
  refine PySem.W.callWith_KW0 (h₀ := X.base) I.ok.mod.kin hk hall ?_ hpl
  refine thn (h σ H H0 (fun zs H2 => ∃ H1 O1 ds, Step z.T X.K H0 O H H1 O1 H2 ∧ rps X.K H1 ds zs ∧ ds.length = ps.length ∧ dsp ds.reverse O1 Φ Ξ) st en (fun vs ds H1 O1 HH s1 r φ => ⟨H1, O1, ds, s1, r, φ.1, φ.2⟩) pos pins s I).out fun ws s2 ⟨zs, H2, I2, rz, H1, O1, ds, s1, r, l1, φ⟩ => ⟨I2.kIn, ?_⟩
  rw [hks]
  refine run_fnN F hr hb hx I2 (vs := []) .nil rz rfl (by rw [List.length_reverse, rps_len r, l1]) ?_
  exact ⟨H1, O1, ds.reverse, Φ, Ξ, s1.s, rps_rev r, φ, fun v d H0' O' H' s' r' q => kt v d H0' O' H' (s1.trans s') r' q, fun C d x xd H0' O' H' s' a b q => lk C d x xd H0' O' H' ((st.trans s1).trans s') a b q⟩
/-! ### three targets, four targets -/
theorem ws_par3 (i j l : Nat) {x y w : Str} {a b c : Expr} {px py pz pt : Pos} {kt k2 : Nat} {pt2 : Pos} (h : WA z X [a, b, c] Γ O fun ds O1 => ∃ d e f, ds = [d, e, f] ∧ E.nx (((Γ.set i (some d)).set j (some e)).set l (some f)) O1) (hN : X.N.Nodup) (hc : X.calm = true := by rfl) (hi : X.N[i]? = some x := by rfl) (hj : X.N[j]? = some y := by rfl) (hl : X.N[l]? = some w := by rfl)
    (hij : i ≠ j := by decide) (hil : i ≠ l := by decide) (hjl : j ≠ l := by decide)
    (hx : X.env.scope.names.lookup x = some .local := by rfl) (hy : X.env.scope.names.lookup y = some .local := by rfl) (hw : X.env.scope.names.lookup w = some .local := by rfl)
    (hsw : swappedStores [.Tuple [.Name x px, .Name y py, .Name w pz] kt pt] (.Tuple [a, b, c] k2 pt2) X.env = pure (some [x, y, w]) := by rfl)
    (hs : swapsWithSole [.Tuple [.Name x px, .Name y py, .Name w pz] kt pt] (.Tuple [a, b, c] k2 pt2) pos.line X.env = pure false := by rfl) :
    WS z X (.Assign [.Tuple [.Name x px, .Name y py, .Name w pz] kt pt] (.Tuple [a, b, c] k2 pt2) pos) Γ O E :=
  ws_of (ps_par3 hc hN hi hj hl hij hil hjl hx hy hw pa_w hsw hs) fun σ H H0 D st en k => h σ H H0 _ st en fun vs ds H1 O1 HH s r ⟨d, e, f, eq, φ⟩ => by
    subst eq
    obtain ⟨u1, q1, e1, r1, u2, q2, e2, r2, u3, q3, e3, r3, e4⟩ := r
    have e4 : q3 = [] := e4
    subst e1 e2 e3 e4
    exact ⟨u1, u2, u3, rfl, k.nx _ _ _ _ _ s ((((en.mono s.k).set r1).set r2).set r3) φ⟩
theorem pg4 (i j l m : Nat) {x y u v : Str} {p1 p2 p3 p4 p5 : Pos} {k : Nat} (hN : X.N.Nodup) (hc : X.calm = true := by rfl) (hi : X.N[i]? = some x := by rfl) (hj : X.N[j]? = some y := by rfl) (hl : X.N[l]? = some u := by rfl) (hm : X.N[m]? = some v := by rfl)
    (hx : Loc X.env.scope x := by first | exact Or.inl rfl | exact Or.inr rfl) (hy : Loc X.env.scope y := by first | exact Or.inl rfl | exact Or.inr rfl) (hu : Loc X.env.scope u := by first | exact Or.inl rfl | exact Or.inr rfl) (hv : Loc X.env.scope v := by first | exact Or.inl rfl | exact Or.inr rfl)
    (fx : X.fn x = true ∨ X.env.scope.names.lookup x = some .local := by first | exact .inl rfl | exact .inr rfl) (fy : X.fn y = true ∨ X.env.scope.names.lookup y = some .local := by first | exact .inl rfl | exact .inr rfl)
    (fu : X.fn u = true ∨ X.env.scope.names.lookup u = some .local := by first | exact .inl rfl | exact .inr rfl) (fv : X.fn v = true ∨ X.env.scope.names.lookup v = some .local := by first | exact .inl rfl | exact .inr rfl) :
    PG X (.Tuple [.Name x p1, .Name y p2, .Name u p3, .Name v p4] k p5) (gTup X.K 4 (gCons (gName i) (gCons (gName j) (gCons (gName l) (gCons (gName m) gNil))))) :=
  pg_tup hc (pgs_cons (pg_name hN hi hx fx) (pgs_cons (pg_name hN hj hy fy) (pgs_cons (pg_name hN hl hu fu) (pgs_cons (pg_name hN hm hv fv) pgs_nil))))
theorem pg3 (i j l : Nat) {x y u : Str} {p1 p2 p3 p5 : Pos} {k : Nat} (hN : X.N.Nodup) (hc : X.calm = true := by rfl) (hi : X.N[i]? = some x := by rfl) (hj : X.N[j]? = some y := by rfl) (hl : X.N[l]? = some u := by rfl)
    (hx : Loc X.env.scope x := by first | exact Or.inl rfl | exact Or.inr rfl) (hy : Loc X.env.scope y := by first | exact Or.inl rfl | exact Or.inr rfl) (hu : Loc X.env.scope u := by first | exact Or.inl rfl | exact Or.inr rfl)
    (fx : X.fn x = true ∨ X.env.scope.names.lookup x = some .local := by first | exact .inl rfl | exact .inr rfl) (fy : X.fn y = true ∨ X.env.scope.names.lookup y = some .local := by first | exact .inl rfl | exact .inr rfl)
    (fu : X.fn u = true ∨ X.env.scope.names.lookup u = some .local := by first | exact .inl rfl | exact .inr rfl) :
    PG X (.Tuple [.Name x p1, .Name y p2, .Name u p3] k p5) (gTup X.K 3 (gCons (gName i) (gCons (gName j) (gCons (gName l) gNil)))) :=
  pg_tup hc (pgs_cons (pg_name hN hi hx fx) (pgs_cons (pg_name hN hj hy fy) (pgs_cons (pg_name hN hl hu fu) pgs_nil)))
theorem rg4 {K : PySem.W.Frag} {i j l m : Nat} {d e f g : Dat} {N : Env' → OHp → Prop} (h : N ((((Γ.set i (some d)).set j (some e)).set l (some f)).set m (some g)) O) : RG z K (gTup K 4 (gCons (gName i) (gCons (gName j) (gCons (gName l) (gCons (gName m) gNil))))) (.tup [d, e, f, g]) Γ O N :=
  rg_tup rfl (rgs_cons (rg_name (rgs_cons (rg_name (rgs_cons (rg_name (rgs_cons (rg_name (rgs_nil h)))))))))
theorem rg3 {K : PySem.W.Frag} {i j l : Nat} {d e f : Dat} {N : Env' → OHp → Prop} (h : N (((Γ.set i (some d)).set j (some e)).set l (some f)) O) : RG z K (gTup K 3 (gCons (gName i) (gCons (gName j) (gCons (gName l) gNil)))) (.tup [d, e, f]) Γ O N :=
  rg_tup rfl (rgs_cons (rg_name (rgs_cons (rg_name (rgs_cons (rg_name (rgs_nil h)))))))
/-! ### an own class -/
/-- self.f = e, a field that is not there as yet -/
theorem zip_put (f : Str) (v : V) : ∀ (ns : List Str) (vs : List V), ns.length = vs.length → f ∉ ns → putF f v (ns.zip vs) = (ns ++ [f]).zip (vs ++ [v])
  | [], [], _, _ => rfl
  | [], _ :: _, h, _ => by simp at h
  | _ :: _, [], h, _ => by simp at h
  | n :: ns, x :: vs, h, hf => by
    have h1 : n ≠ f := fun e => hf (by rw [e]; exact List.mem_cons_self)
    show (if n = f then (n, v) :: ns.zip vs else (n, x) :: putF f v (ns.zip vs)) = _
    rw [if_neg h1, zip_put f v ns vs (by simpa using h) fun q => hf (List.mem_cons_of_mem _ q)]
    rfl
theorem ws_fld {f : Str} {p2 : Pos} (h : WD z X e Γ O fun y O1 => WD z X o Γ O1 fun d O2 => ∃ p C dx ns ds, d = R p ∧ O2 p = some (.ins C dx ns ds) ∧ Cls X.K C ∧ NoAttr X.K C f ∧ f ∉ ns ∧ ns.length < 1000 ∧ E.nx Γ (put O2 p (.ins C dx (ns ++ [f]) (ds ++ [y]))))
    (hs : swapsWith e (some (.Attribute o f p2)) pos.line X.env = pure false := by rfl) : WS z X (.Assign [.Attribute o f p2] e pos) Γ O E :=
  ws_of (ps_fld pe_w pe_w hs) fun σ H H0 D st en k => h σ H H0 _ st en fun y dy H1 O1 HH1 s1 r1 φ1 => φ1 σ HH1 H1 _ (st.trans s1) (en.mono s1.k) fun v d H2 O2 HH2 s2 r2 ⟨p, C, dx, ns, ds, e1, ho, c1, c2, hf, hl, φ⟩ => by
    subst e1
    have r2 : v = .ref p := r2
    obtain ⟨h0, ho', e2, vs, e3, rr, hlen⟩ := s2.s.o p _ ho
    subst e3
    have hlv : ns.length = vs.length := by rw [hlen, rps_len rr]
    refine ⟨p, C, dx, _, r2, e2, c1, c2, by rw [List.length_zip, ← hlv, Nat.min_self]; exact hl, ?_⟩
    rw [zip_put f y ns vs hlv hf]
    have s3 := s2.s.write (od' := .ins C dx (ns ++ [f]) (ds ++ [dy])) (o := .ins C dx ((ns ++ [f]).zip (vs ++ [y]))) ho ⟨_, rfl, rps_append rr (rps_one (rp_mono s2.k _ _ r1)), by simp [hlen]⟩
    exact k.nx _ _ _ _ _ ((s1.trans s2).trans s3) (en.mono ((s1.k.trans s2.k).trans s3.k)) φ
/-- C(..), its own __init__ -/
theorem wd_make {x : Str} {C f : Addr} {fd : FuncData} {k : Nat} {ps : List Str} {dsp : DSp} (M : Mk X.K C f) (F : FnOk X.prog X.w X.K X.mg X.base (L2.CX X.prog X.w) k f fd ps (lift z.T X.K dsp)) (hr : Room (k + 1) X.A) (hm : X.mg x = some (.ref C)) (hb : Binds X.K fd ps []) (hx : Passes (L2.CX X.prog X.w) X E0)
    (h : WA z X (e :: es) Γ O fun ds O1 => ∀ p dx, O1 p = none → dsp (R p :: ds) (put O1 p (.ins C dx [] [])) (fun d O2 => d = N ∧ ∃ ns fs, O2 p = some (.ins C dx ns fs) ∧ Φ (.ins C ns fs) (del O2 p)) fun _ _ _ => False)
    (hg : Gl X x := by rfl) (hdb : (x == ("__debug__" : Str)) = false := by decide) (hs : starEach (e :: es) X.env = (false, eval e X.env) :: starEach es X.env := by rfl) (hpl : (backTo pos (starEach es X.env)).any (·.1) = false := by rfl) : WD z X (.Call (.Name x p) (e :: es) [] pos) Γ O Φ :=
  wd_of (pe_make M F hr hg hm hb .nil hx pa_w hdb hs hpl) fun σ H H0 Q st en kt => h σ H H0 _ st en fun vs ds H1 O1 HH s1 r1 φ => fun a dx ha hdx hne => by
    rw [List.append_nil]
    have sA := s1.s.new (o := .own a) hdx (fun ps q => by cases q)
    have ha2 : upd HH dx (.own a) a = none := by rw [upd_ne (Ne.symm hne)]; exact ha
    have sB := sA.s.own (p := a) (o := .ins C dx []) (od := .ins C dx [] []) ha2 ⟨[], rfl, rfl, rfl⟩
    refine ⟨_, _, R a :: ds, _, _, sB.s, rps_cons rfl (rps_mono (sA.k.trans sB.k) _ _ r1), φ a dx (s1.s.fresh ha).2, fun v d H0' O' H' s' r' q => ?_, fun _ _ _ _ _ _ _ _ _ _ q => q.elim⟩
    obtain ⟨e1, ns, fs, ho, φ2⟩ := q
    subst e1
    have r' : v = .non := r'
    obtain ⟨H3, s3, r3⟩ := s'.s.freezeI ho
    exact ⟨r', kt (.ref a) _ _ _ _ ((((s1.trans sA).trans sB).trans s').trans s3) r3 φ2⟩
/-! ### a def in a local name, called -/
end
end DL

set_option Elab.async false
set_option linter.all false
set_option maxRecDepth 100000
set_option maxHeartbeats 2000000
/-! DLZ2: for over zip(tuple, list), over the library's zip of any two iterators (KE.GoesZip, KE.GoesMore) -/
namespace DL
open PySem PySem.Spec PyProof.Rows L2
/-- side by side: the tuple at a holds xs, the list at b holds ys -/
structure Side (K : PySem.W.Frag) (a b : Addr) (xs ys : List V) (H : Hp) : Prop where
  l : SqT K H a xs
  r : SqL K H b ys
/-- turn i makes a pair of the two items at i, as long as both have one -/
def SideIt (K : PySem.W.Frag) (a b : Addr) (xs ys : List V) : It where
  go := fun i H => Side K a b xs ys H ∧ i < min xs.length ys.length
  stop := fun i H => Side K a b xs ys H ∧ min xs.length ys.length ≤ i
  yld := fun i H v H' => ∃ p x y, v = .ref p ∧ H p = none ∧ xs[i]? = some x ∧ ys[i]? = some y ∧ H' = upd H p (.tup [x, y])
/-- the cells of the zip z: its two iterators I, J, the tuple T that holds them, the tuple U that it gives out -/
def sideCells (z T U I J : Addr) : List Addr := [z, U, I, J, T]
theorem side_all {z T U I J : Addr} {Z : Addr → Prop} (h : Z z ∧ Z U ∧ Z I ∧ Z J ∧ Z T) : ∀ c ∈ sideCells z T U I J, Z c := fun c hc => by
  obtain ⟨h0, h1, h2, h3, h4⟩ := h
  unfold sideCells at hc
  rcases List.mem_cons.mp hc with e | hc
  · exact e ▸ h0
  rcases List.mem_cons.mp hc with e | hc
  · exact e ▸ h1
  rcases List.mem_cons.mp hc with e | hc
  · exact e ▸ h2
  rcases List.mem_cons.mp hc with e | hc
  · exact e ▸ h3
  · exact (List.mem_singleton.mp hc) ▸ h4
/-- what the cells hold ahead of turn i of n -/
structure SideAt (z T U I J a b : Addr) (n i : Nat) (h : Heap) : Prop where
  isZ : IsZip h z T U .none
  isT : IsTupOf2 h T (.ref I) (.ref J)
  isU : ∃ x y, IsTupOf2 h U x y
  isI : h.IsTupleIter I a i
  isJ : h.IsListIter J b i
  le : i ≤ n
theorem SideAt.through {z T U I J a b : Addr} {n i : Nat} {h h' : Heap} (s : SideAt z T U I J a b n i h) (k : ∀ c ∈ sideCells z T U I J, ∀ o, h.get? c = some o → h'.get? c = some o) : SideAt z T U I J a b n i h' where
  isZ := k z (by simp [sideCells]) _ s.isZ
  isT := k T (by simp [sideCells]) _ s.isT
  isU := let ⟨x, y, e⟩ := s.isU; ⟨x, y, k U (by simp [sideCells]) _ e⟩
  isI := s.isI.at fun o e => k I (by simp [sideCells]) o e
  isJ := s.isJ.at fun o e => k J (by simp [sideCells]) o e
  le := s.le
theorem side_turn {P : Program} {w : World} {K : PySem.W.Frag} {elts : List Expr} {kk : Nat} {tpos : Pos} {a b z T U I J : Addr} {xs ys : List V} (S : ZipSep2 z T U I J [I, a] [J, b]) (na : a ≠ I) (nb : b ≠ J) :
    Turn P w K (.Tuple elts kk tpos) (SideIt K a b xs ys) (sideCells z T U I J) z (SideAt z T U I J a b (min xs.length ys.length)) := by
  have lv : ∀ i h, SideAt z T U I J a b (min xs.length ys.length) i h → ∀ c ∈ sideCells z T U I J, ∃ o, h.get? c = some o ∧ ∀ v, o.data ≠ .cell v := fun i h s => by
    obtain ⟨x, y, hu⟩ := s.isU
    obtain ⟨oi, hi, _, di⟩ := s.isI
    obtain ⟨oj, hj, _, dj⟩ := s.isJ
    exact side_all ⟨⟨_, s.isZ, fun _ q => by cases q⟩, ⟨_, hu, fun _ q => by cases q⟩, ⟨oi, hi, fun _ q => by rw [di] at q; cases q⟩, ⟨oj, hj, fun _ q => by rw [dj] at q; cases q⟩, ⟨_, s.isT, fun _ q => by cases q⟩⟩
  refine ⟨by simp [sideCells], lv, fun i h h' s k => s.through k, ?_, ?_, fun A i s Q E st q => wpAny_pyIter_zip st.isZ q⟩
  · intro X eP ew eK calm i pins s σ H E inv fresh at_ more
    subst eP ew eK
    obtain ⟨sd, lt⟩ := more
    obtain ⟨us, r1, p1, _⟩ := inv.tuple sd.l
    obtain ⟨vs, r2, p2, _⟩ := inv.list sd.r
    have len1 := r1.length
    have len2 := r2.length
    obtain ⟨x, hx⟩ : ∃ x, xs[i]? = some x := ⟨_, List.getElem?_eq_getElem (by omega)⟩
    obtain ⟨y, hy⟩ : ∃ y, ys[i]? = some y := ⟨_, List.getElem?_eq_getElem (by omega)⟩
    obtain ⟨ux, hux, rx⟩ := r1.get hx
    obtain ⟨uy, huy, ry⟩ := r2.get hy
    obtain ⟨u1, u2, hU⟩ := at_.isU
    have small : ∀ c ∈ sideCells z T U I J, c < s.heap.objs.size := fun c hc => let ⟨_, e, _⟩ := lv _ _ at_ c hc; Heap.lt_size e
    refine wpAny_pyNext_zipD2_item S (Draws.tuple (A := X.A.in1) (inv.ok.hd calm) I a na us.toArray) (Draws.list (A := X.A.in1) (inv.ok.hd calm) J b nb vs.toArray) at_.isZ at_.isT hU ⟨at_.isI, p1⟩ ⟨at_.isJ, p2.isList⟩ (by simp; omega) (by simp; omega)
      fun v1 v2 h1 tk e1 e2 z1 U1 d1 d2 new1 _ keep1 => ⟨_, rfl, wpAny_letOwnedTupleGo_zip (s := { s with heap := h1, toks := tk }) z1 fun h2 z2 but => ?_⟩
    have e1 : us[i]? = some v1 := by simpa using e1
    have e2 : vs[i]? = some v2 := by simpa using e2
    have q1 : v1 = ux := Option.some.inj (e1.symm.trans hux)
    have q2 : v2 = uy := Option.some.inj (e2.symm.trans huy)
    subst q1 q2
    -- past both writes: all but the zip's own cells
    have past : ∀ c o, c ∉ sideCells z T U I J → s.heap.get? c = some o → h2.get? c = some o := fun c o hc e => by
      simp only [sideCells, List.mem_cons, List.not_mem_nil, or_false, not_or] at hc
      exact (but.2 c hc.1).trans (keep1 c o hc.1 hc.2.1 hc.2.2.1 hc.2.2.2.1 e)
    have pair2 : h2.get? s.heap.objs.size = some { cls := .type "tuple", data := .seq #[v1, v2] } := by
      rw [but.2 _ (Nat.ne_of_gt (small z (by simp [sideCells])))]
      exact new1
    have inv2 : Inv X pins σ (upd H s.heap.objs.size (.tup [x, y])) { s with heap := h2, toks := tk } :=
      inv.turnedNew past fresh (Nat.le_refl _) ⟨by show 2 ≤ sizeLine; decide, [v1, v2], .cons rx (.cons ry .nil), _, pair2, rfl, _, rfl⟩
    refine ⟨.ref s.heap.objs.size, _, inv2, rfl, ⟨_, x, y, rfl, inv.hok.fresh (Nat.le_refl _), hx, hy, rfl⟩, ⟨z2, ?_, ⟨v1, v2, (but.2 U S.TOz).trans U1⟩, ?_, ?_, by omega⟩, fun c hc => ?_⟩
    · exact (but.2 T S.TIz).trans (keep1 T _ S.TIz S.TITO S.TIi1 S.TIi2 at_.isT)
    · exact d1.1.at fun o e => (but.2 I (Ne.symm S.zi1)).trans e
    · exact d2.1.at fun o e => (but.2 J (Ne.symm S.zi2)).trans e
    · rw [upd_ne (Nat.ne_of_lt (small c hc))]
      exact (fresh c hc).1
  · intro X eP ew eK calm i pins s σ H E inv fresh at_ over
    subst eP ew eK
    obtain ⟨sd, le⟩ := over
    obtain ⟨us, r1, p1, _⟩ := inv.tuple sd.l
    obtain ⟨vs, r2, p2, _⟩ := inv.list sd.r
    have len1 := r1.length
    have len2 := r2.length
    have n := at_.le
    obtain ⟨u1, u2, hU⟩ := at_.isU
    refine wpAny_pyNext_zipD2_end S (Draws.tuple (A := X.A.in1) (inv.ok.hd calm) I a na us.toArray) (Draws.list (A := X.A.in1) (inv.ok.hd calm) J b nb vs.toArray) at_.isZ at_.isT hU ⟨at_.isI, p1⟩ ⟨at_.isJ, p2.isList⟩ (by simp; omega) (by simp; omega) (by simp; omega) fun h1 tk keep1 => ⟨rfl, inv.turnedL (ch := sideCells z T U I J) (fun c o hc e => ?_) fresh⟩
    simp only [sideCells, List.mem_cons, List.not_mem_nil, or_false, not_or] at hc
    exact keep1 c o hc.1 hc.2.1 hc.2.2.1 hc.2.2.2.1 e
/-- both arguments are read, then the walk begins -/
def iSide (K : PySem.W.Frag) (ta : TA) : TI := fun σ H R => ta σ H fun vs H1 => ∃ (a b : Addr) (xs ys : List V), vs = [V.ref a, V.ref b] ∧ Side K a b xs ys H1 ∧ R (SideIt K a b xs ys) H1
theorem pi_side {X : Cx} {e e2 : Expr} {ta : TA} {p pos tpos : Pos} {elts : List Expr} {kk : Nat} (hg : Gl X "zip") (hm : X.mg "zip" = none) (ha : PA X [e, e2] ta) (hs : starEach [e, e2] X.env = (false, eval e X.env) :: starEach [e2] X.env)
    (hpl : (backTo pos (starEach [e2] X.env)).any (·.1) = false) : PI X (.Tuple elts kk tpos) (.Call (.Name "zip" p) [e, e2] [] pos) (iSide X.K ta) := by
  refine ⟨fun pins s σ H R inv h => Call_ (ld_blt inv hg hm PyProof.Rows.boot_zip (PyProof.Rows.callWith_type1 (thn (ha.run pos pins s σ H _ inv h) fun us s1 ⟨vs, H1, inv1, rel, a, b, xs, ys, ev, sd, q⟩ => ?_) hs hpl))⟩
  subst ev
  obtain ⟨rfl⟩ : us = [.ref a, .ref b] := by
    cases rel with
    | cons r1 rel =>
      cases rel with
      | cons r2 rel =>
        cases rel
        cases r1
        cases r2
        rfl
  obtain ⟨ts, _, p1, _⟩ := inv1.tuple sd.l
  obtain ⟨ls, _, p2, _⟩ := inv1.list sd.r
  refine zip_begins2 (begins_tuple a ts.toArray) (begins_list b ls.toArray) p1 p2.isList fun h1 z1 t1 u1 g1 g2 _ keep => wpAny_pyIter_zip z1 ?_
  have la : a < s1.heap.objs.size := let ⟨_, e, _⟩ := p1; Heap.lt_size e
  have lb : b < s1.heap.objs.size := p2.lt
  have S := zip_sep2 (N := s1.heap.objs.size) (fp1 := [a]) (fp2 := [b]) (fun c hc => by rw [List.mem_singleton.mp hc]; exact la) (fun c hc => by rw [List.mem_singleton.mp hc]; exact lb)
  have new : ∀ n, FpOk X pins H1 (s1.heap.objs.size + n) := fun n => inv1.fpOk (Nat.le_add_right _ _) (inv1.hok.fresh (Nat.le_add_right _ _))
  exact ⟨_, _, _, SideIt X.K a b xs ys, H1, rfl, inv1.kept (t' := s1.toks) keep, side_turn S (Nat.ne_of_lt la) (Nat.ne_of_lt (Nat.lt_succ_of_lt lb)), ⟨z1, t1, ⟨_, _, u1⟩, ⟨_, g1, rfl, rfl⟩, ⟨_, g2, rfl, rfl⟩, Nat.zero_le _⟩, side_all ⟨new 4, new 3, new 0, new 1, new 2⟩, q⟩
section
variable {z : En} {X : Cx} {e : Expr} {Γ : Env'} {O : OHp} {F : Nat → (Nat → Dat → Prop) → (OHp → Prop) → OHp → Prop} {pos : Pos}
/-- for x, y in zip(e, e2): a tuple and a known list -/
theorem wi_zipM {p tpos : Pos} {elts : List Expr} {kk : Nat} {e2 : Expr} (hm : X.mg "zip" = none) (h : WD z X e Γ O fun d1 O1 => WD z X e2 Γ O1 fun d2 O2 => ∃ ds es, d1 = .tup ds ∧ d2 = .lst es ∧ F (min ds.length es.length) (fun i d => ∃ x y, ds[i]? = some x ∧ es[i]? = some y ∧ d = .tup [x, y]) (fun _ => True) O2)
    (hg : Gl X "zip" := by rfl) (hs : starEach [e, e2] X.env = [(false, eval e X.env), (false, eval e2 X.env)] := by rfl) (hs2 : starEach [e2] X.env = [(false, eval e2 X.env)] := by rfl) : WI z X (.Tuple elts kk tpos) (.Call (.Name "zip" p) [e, e2] [] pos) Γ O F := by
  refine wi_of (pi_side hg hm (pa_cons pe_w (pa_cons pe_w pa_nil hs2) (by rw [hs, hs2])) (by rw [hs, hs2]) (by rw [hs2]; rfl)) fun σ H H0 Q st en k => ?_
  refine h σ H H0 _ st en fun v1 d1 H1 O1 HH s1 r1 φ1 => φ1 σ HH H1 _ (st.trans s1) (en.mono s1.k) fun v2 d2 H2 O2 HH2 s2 r2 ⟨ds, es, q1, q2, φ⟩ => ?_
  subst q1 q2
  obtain ⟨a, us, rfl, ka, ru⟩ := rp_mono s2.k _ _ r1
  obtain ⟨b, vs, rfl, kb, rv⟩ := r2
  have lu := rps_len ru
  have lv := rps_len rv
  -- both stand in every later heap
  have stand : ∀ {H3 HH3 : Hp} {O3 : OHp}, Same H2 H3 → z.At X.K H3 O3 HH3 → Side X.K a b us vs HH3 := fun sm st3 => ⟨SqT.of (st3.s.k _ _ (sm _ _ ka)), SqL.of (st3.s.k _ _ (sm _ _ kb))⟩
  refine ⟨a, b, us, vs, rfl, ⟨SqT.of (s2.s.k _ _ ka), SqL.of (s2.s.k _ _ kb)⟩, k _ _ _ _ _ _ _ (s1.trans s2) ⟨fun i H3 O3 HH3 st3 sm _ hi => ⟨stand sm st3, by omega⟩, fun i H3 O3 HH3 st3 sm _ hi => ⟨stand sm st3, by omega⟩, fun i H3 O3 HH3 v H' st3 sm _ hi w => ?_⟩ φ⟩
  obtain ⟨t, x, y, rfl, ht, hx, hy, rfl⟩ := w
  obtain ⟨dx, ex, rx⟩ := rps_get' ru hx
  obtain ⟨dy, ey, ry⟩ := rps_get' rv hy
  obtain ⟨H4, s4, r4⟩ := pair_new st3.s (rp_mono sm _ _ rx) (rp_mono sm _ _ ry) ht
  exact ⟨H4, _, s4, r4, dx, dy, ex, ey, rfl⟩
end
end DL

set_option Elab.async false
set_option linter.all false
set_option maxRecDepth 100000
set_option maxHeartbeats 4000000
/-! WK0: the text of the program; a def by its body; comprehensions that keep what is owned -/
namespace DL
open PySem PySem.Spec PyProof.Rows L2
def topS (i : Nat) : Stmt := PySem.Challenge.pw_noneleft_k22_whole_who_must_come.main.body.getD i (.Pass ⟨0, 0, 0, 0⟩)
/-- a def of the module -/
structure Df (K : PySem.W.Frag) (mg : Str → Option Value) (x : Str) (st : Stmt) (ps : List Str) : Prop where
  ex : ∃ f fd, Fun K x x st f fd ∧ mg x = some (.ref f) ∧ Binds K fd ps []
section
variable {P : Program} {w : World} {K : PySem.W.Frag} {mg : Str → Option Value} {base : Heap} {T : List (Addr × Str)}
theorem calD {x : Str} {st : Stmt} {N ps : List Str} {k : Nat} {dsp : DSp} (d : Df K mg x st ps) (Sc : FnScope N ps (defScope st)) (len : ∀ ds O Φ Ψ, dsp ds O Φ Ψ → ds.length = ps.length)
    (body : ∀ (f : Addr) (cdv : Value) (A : Around) (outer : List Env) (s : Shared) (H : Hp) (E : XK) (H0 : Hp) (O : OHp) (ds : List Dat) Φ Ψ, Room k (A.deeper (envOfC x (defScope st) s.heap.objs.size f cdv)) → dsp ds O Φ Ψ →
      WSs ⟨T, H0, O, H⟩ (cxOf CX0 P w K mg base N x (defScope st) f cdv A outer s H E).nox (defBody st) (startE N ds) O { nx := fun _ O' => Ret Φ (.v .non) O', rt := Ret Φ }) : Cal P w K mg base T CX0 x (k + 1) ps dsp := by
  obtain ⟨f, fd, F, hm, hb⟩ := d.ex
  exact ⟨f, fd, fnOkD F Sc len (body f), hm, F.kp, hb⟩
theorem calX {x : Str} {st : Stmt} {N ps : List Str} {k : Nat} {dsp : DSp} (d : Df K mg x st ps) (Sc : FnScope N ps (defScope st)) (len : ∀ ds O Φ Ψ, dsp ds O Φ Ψ → ds.length = ps.length)
    (body : ∀ (f : Addr) (cdv : Value) (A : Around) (outer : List Env) (s : Shared) (H : Hp) (E : XK) (H0 : Hp) (O : OHp) (ds : List Dat) Φ Ψ, Room k (A.deeper (envOfC x (defScope st) s.heap.objs.size f cdv)) → dsp ds O Φ Ψ → Lk ⟨T, H0, O, H⟩ K E Ψ →
      WSs ⟨T, H0, O, H⟩ (cxOf (L2.CX P w) P w K mg base N x (defScope st) f cdv A outer s H E) (defBody st) (startE N ds) O { nx := fun _ O' => Ret Φ (.v .non) O', rt := Ret Φ }) : Cal P w K mg base T (L2.CX P w) x (k + 1) ps dsp := by
  obtain ⟨f, fd, F, hm, hb⟩ := d.ex
  exact ⟨f, fd, fnOkX F Sc len (body f), hm, F.kp, hb⟩
end
section
variable {z : En} {X : Cx} {e a b c o i elt tg iter : Expr} {es ifs : List Expr} {st : Stmt} {sts : List Stmt} {kws : List Keyword} {Γ : Env'} {O : OHp} {Φ : Dat → OHp → Prop} {Ψ : Bool → OHp → Prop} {Θ : List Dat → OHp → Prop} {E : EnD} {pos : Pos} {scope : Scope} {own : List (Str × Nat)} {g : TG}
/-- [elt for ..]: item i gives r[i]; what is owned stays -/
theorem lcw_map {n : Nat} {Y : Nat → Dat → Prop} {C : OHp → Prop} (r : List Dat) (hr : r.length = n) (hn : n ≤ 100000) (hC : C O)
    (turn : ∀ i d, i < n → Y i d → RG z X.K g d (wipeE Γ (own.map (·.2))) O fun Γ2 O2 => O2 = O ∧ WDb z X scope elt Γ2 O fun y O4 => r[i]? = some y ∧ O4 = O) (fin : NewL O r Φ) : LcW z X scope own elt [] g Γ Φ n Y C O := by
  refine ⟨hn, fun i acc O' => acc = r.take i ∧ O' = O, ⟨rfl, rfl⟩, fun i acc O' h => by rw [h.2]; exact hC, fun i d acc O' hi h y => ?_, fun acc O' h => ?_⟩
  · obtain ⟨e1, e2⟩ := h
    subst e1 e2
    exact fun σ H H0 v Q st en r' k => turn i d hi y σ H H0 v Q st en r' fun σ' Γ' H0' O2 H' s' e' ⟨q1, q2⟩ => k σ' Γ' H0' O2 H' s' e' (by
      subst q1
      exact fun s0 H1 C cl fp => wts_nil ⟨fun _ s0 H1 C cl fp => rd_imp (q2 s0 H1 C cl fp) fun d O4 ⟨q3, q4⟩ => ⟨by rw [List.take_add_one, q3]; rfl, q4⟩, fun z => by cases z⟩)
  · obtain ⟨e1, e2⟩ := h
    subst e1 e2
    rw [← hr, List.take_length]
    exact fin
/-- [elt for .. if t]: item i gives r i, if anything -/
theorem lcw_filter {n : Nat} {Y : Nat → Dat → Prop} {C : OHp → Prop} {t : Expr} (r : Nat → Option Dat) (hn : n ≤ 100000) (hC : C O)
    (turn : ∀ i d, i < n → Y i d → RG z X.K g d (wipeE Γ (own.map (·.2))) O fun Γ2 O2 => O2 = O ∧ WTb z X scope [t] Γ2 O fun b O3 => O3 = O ∧ (b = true → WDb z X scope elt Γ2 O fun y O4 => r i = some y ∧ O4 = O) ∧ (b = false → r i = none)) (fin : NewL O ((List.range n).filterMap r) Φ) : LcW z X scope own elt [t] g Γ Φ n Y C O := by
  refine ⟨hn, fun i acc O' => acc = (List.range i).filterMap r ∧ O' = O, ⟨rfl, rfl⟩, fun i acc O' h => by rw [h.2]; exact hC, fun i d acc O' hi h y => ?_, fun acc O' h => ?_⟩
  · obtain ⟨e1, e2⟩ := h
    subst e1 e2
    exact fun σ H H0 v Q st en r' k => turn i d hi y σ H H0 v Q st en r' fun σ' Γ' H0' O2 H' s' e' ⟨q1, q2⟩ => k σ' Γ' H0' O2 H' s' e' (by
      subst q1
      refine fun s0 H1 C cl fp => fun σ4 H4 H04 Q4 st4 en4 k4 => q2 s0 H1 C cl fp σ4 H4 H04 Q4 st4 en4 fun b H5 O5 HH5 s5 ⟨q3, q4, q5⟩ => k4 b H5 O5 HH5 s5 ?_
      subst q3
      refine ⟨fun hb s0 H1 C cl fp => rd_imp (q4 hb s0 H1 C cl fp) fun d O4 ⟨q6, q7⟩ => ⟨?_, q7⟩, fun hb => ⟨?_, rfl⟩⟩
      · rw [List.range_succ, List.filterMap_append, List.filterMap_cons, q6]; rfl
      · rw [List.range_succ, List.filterMap_append, List.filterMap_cons, q5 hb]; simp)
  · obtain ⟨e1, e2⟩ := h
    subst e1 e2
    exact fin
theorem filterMap_range {α : Type} (xs : List α) (p : α → Bool) (f : α → Dat) : (List.range xs.length).filterMap (fun i => (xs[i]?).bind fun x => if p x = true then some (f x) else none) = (xs.filter p).map f := by
  induction xs with
  | nil => rfl
  | cons x xs ih =>
    rw [List.length_cons, List.range_succ_eq_map, List.filterMap_cons, List.filterMap_map, List.filter_cons]
    have e : ((fun i => ((x :: xs)[i]?).bind fun x => if p x = true then some (f x) else none) ∘ Nat.succ) = fun i => (xs[i]?).bind fun x => if p x = true then some (f x) else none := rfl
    rw [e, ih]
    by_cases h : p x = true
    · simp [h]
    · simp [h]
/-- a def in a local name, called -/
theorem wd_callL (i : Nat) {x : Str} {p : Pos} {f : Addr} {fd : FuncData} {k : Nat} {ps : List Str} {dsp : DSp} {Ξ : Addr → Dat → OHp → Prop} {EX : XK} (F : FnOk X.prog X.w X.K X.mg X.base (L2.CX X.prog X.w) k f fd ps (lift z.T X.K dsp)) (hk : PySem.W.keepIn X.K (.ref f) = true) (hb : Binds X.K fd ps [])
    (hr : Room k X.A) (hx : Passes (L2.CX X.prog X.w) X EX) (lk : Lk z X.K EX Ξ) (h : WA z X (e :: es) Γ O fun ds O1 => dsp ds O1 Φ Ξ) (hΓ : Γ[i]? = some (some (R f)) := by rfl) (hN : X.N[i]? = some x := by rfl) (hv : Vis X.env.scope x := by first | exact Or.inl rfl | exact Or.inr (Or.inl rfl) | exact Or.inr (Or.inr rfl))
    (hdb : (x == ("__debug__" : Str)) = false := by decide) (hcd : (x == ("__classdict__" : Str)) = false := by decide) (hs : starEach (e :: es) X.env = (false, eval e X.env) :: starEach es X.env := by rfl) (hpl : (backTo pos (starEach es X.env)).any (·.1) = false := by rfl) : WD z X (.Call (.Name x p) (e :: es) [] pos) Γ O Φ := by
  refine wd_of (pe_callL (i := i) (dvs := []) F hr hN hv hk hb .nil hx pa_w hdb hcd hs hpl) fun σ H H0 Q st en kt => ?_
  obtain ⟨v, e1, r⟩ := en.2 i _ hΓ
  have r : v = .ref f := r
  subst r
  refine ⟨e1, h σ H H0 _ st en fun vs ds H1 O1 HH s r φ => ?_⟩
  rw [List.append_nil]
  exact ⟨H1, O1, ds, Φ, Ξ, s.s, r, φ, fun v d H2 O2 HH2 s' r' q => kt v d H2 O2 HH2 (s.trans s') r' q, fun C d x xd H0' O' H' s' a b q => lk C d x xd H0' O' H' ((st.trans s).trans s') a b q⟩
theorem ret_val (h : WD z X e Γ O fun d O' => Φ d O') : WD z X e Γ O (Ret Φ) := rd_imp h fun _ _ q => .same q
end
/-- a crowd: some kinds, each a count -/
def Cr (k : Nat) (c : List Int) : Prop := c.length = k ∧ ∀ x ∈ c, 0 ≤ x
/-! ### what the top leaves unbound -/
structure Tx (K : PySem.W.Frag) (mg : Str → Option Value) : Prop where
  len : mg "len" = none
  tuple : mg "tuple" = none
  list : mg "list" = none
  sum : mg "sum" = none
  all : mg "all" = none
  abs : mg "abs" = none
  int : mg "int" = none
  min : mg "min" = none
  max : mg "max" = none
  isinstance : mg "isinstance" = none
  bool : mg "bool" = none
  sorted : mg "sorted" = none
  repr : mg "repr" = none
  range : mg "range" = none
  enumerate : mg "enumerate" = none
  zip : mg "zip" = none
abbrev sWithin : Stmt := topS 12
theorem scWithin : FnScope ["one", "other", "x", "y"] ["one", "other"] (defScope sWithin) := C8.fnScope_by (by decide +kernel)
end DL

set_option Elab.async false
set_option linter.all false
set_option maxRecDepth 100000
set_option maxHeartbeats 4000000
/-! WK1: the plain helpers of the package and of the law -/
namespace DL
open PySem PySem.Spec PyProof.Rows L2
/-! ### plain -/
def leCr (a b : List Int) : Bool := (a.zip b).all fun p => decide (p.1 ≤ p.2)
def addC (a b : List Int) : List Int := List.zipWith (· + ·) a b
def subC (a b : List Int) : List Int := List.zipWith (· - ·) a b
def lackC (a b : List Int) : List Int := List.zipWith (fun x y => x - (if y < x then y else x)) a b
def dot (a b : List Int) : Int := (List.zipWith (· * ·) a b).sum
def isIntD : Dat → Bool
  | .v (.int _) => true
  | _ => false
def isNumD : Dat → Bool
  | .v (.int n) => decide (0 ≤ n)
  | _ => false
def isPosD : Dat → Bool
  | .v (.int n) => decide (0 < n)
  | _ => false
def seqD : Dat → Option (List Dat)
  | .lst ds => some ds
  | .tup ds => some ds
  | _ => none
def okD (d : Dat) : Bool := (tyD d).isSome
theorem ints_get {a : List Int} {i : Nat} {d : Dat} (h : (a.map I)[i]? = some d) : ∃ n, a[i]? = some n ∧ d = I n := by
  rw [List.getElem?_map] at h
  cases e : a[i]? with
  | none => rw [e] at h; cases h
  | some n => rw [e] at h; exact ⟨n, rfl, (Option.some.inj h).symm⟩
theorem tIs_get {a : List (List Int)} {i : Nat} {d : Dat} (h : (a.map tI)[i]? = some d) : ∃ n, a[i]? = some n ∧ d = tI n := by
  rw [List.getElem?_map] at h
  cases e : a[i]? with
  | none => rw [e] at h; cases h
  | some n => rw [e] at h; exact ⟨n, rfl, (Option.some.inj h).symm⟩
/-! ### scopes -/
abbrev sIsInt : Stmt := topS 8
abbrev sIsNum : Stmt := topS 9
abbrev sIsIdx : Stmt := topS 10
abbrev sIsSeq : Stmt := topS 11
abbrev sLess : Stmt := topS 13
abbrev sMore : Stmt := topS 14
abbrev sNobody : Stmt := topS 15
abbrev sIsBatch : Stmt := topS 17
abbrev sCostOf : Stmt := topS 25
abbrev sLacking : Stmt := topS 26
theorem scIsInt : FnScope ["value"] ["value"] (defScope sIsInt) := C8.fnScope_by (by decide +kernel)
theorem scIsNum : FnScope ["value"] ["value"] (defScope sIsNum) := C8.fnScope_by (by decide +kernel)
theorem scIsIdx : FnScope ["value", "many"] ["value", "many"] (defScope sIsIdx) := C8.fnScope_by (by decide +kernel)
theorem scIsSeq : FnScope ["value"] ["value"] (defScope sIsSeq) := C8.fnScope_by (by decide +kernel)
theorem scLess : FnScope ["one", "other", "x", "y"] ["one", "other"] (defScope sLess) := C8.fnScope_by (by decide +kernel)
theorem scMore : FnScope ["one", "other", "x", "y"] ["one", "other"] (defScope sMore) := C8.fnScope_by (by decide +kernel)
theorem scNobody : FnScope ["kinds"] ["kinds"] (defScope sNobody) := C8.fnScope_by (by decide +kernel)
theorem scIsBatch : FnScope ["kinds", "value", "x"] ["kinds", "value"] (defScope sIsBatch) := C8.fnScope_by (by decide +kernel)
theorem scCostOf : FnScope ["crowd", "costs", "x", "cost"] ["crowd", "costs"] (defScope sCostOf) := C8.fnScope_by (by decide +kernel)
theorem scLacking : FnScope ["crowd", "batch", "x", "y"] ["crowd", "batch"] (defScope sLacking) := C8.fnScope_by (by decide +kernel)
/-! ### promises -/
def spIsInt : DSp := fun ds O Φ _ => ∃ d, ds = [d] ∧ okD d = true ∧ Φ (B (isIntD d)) O
def spIsNum : DSp := fun ds O Φ _ => ∃ d, ds = [d] ∧ okD d = true ∧ Φ (B (isNumD d)) O
def inIdx (d : Dat) (m : Int) : Bool := match d with
  | .v (.int n) => decide (0 ≤ n) && decide (n < m)
  | _ => false
def spIsIdx : DSp := fun ds O Φ _ => ∃ d m, ds = [d, I m] ∧ okD d = true ∧ Φ (B (inIdx d m)) O
def spIsSeq : DSp := fun ds O Φ _ => ∃ d, ds = [d] ∧ okD d = true ∧ Φ (B (seqD d).isSome) O
def spWith : DSp := fun ds O Φ _ => ∃ a b : List Int, ds = [tI a, tI b] ∧ a.length = b.length ∧ a.length ≤ 1000 ∧ Φ (B (leCr a b)) O
def spLess : DSp := fun ds O Φ _ => ∃ a b : List Int, ds = [tI a, tI b] ∧ a.length = b.length ∧ a.length ≤ 1000 ∧ Φ (tI (subC a b)) O
def spMore : DSp := fun ds O Φ _ => ∃ a b : List Int, ds = [tI a, tI b] ∧ a.length = b.length ∧ a.length ≤ 1000 ∧ Φ (tI (addC a b)) O
def spNobody : DSp := fun ds O Φ _ => ∃ k : Nat, ds = [I k] ∧ 1 ≤ k ∧ k ≤ 1000 ∧ Φ (tI (List.replicate k 0)) O
def spIsBatch : DSp := fun ds O Φ _ => ∃ (k : Nat) (c : List Int), ds = [I k, tI c] ∧ c.length = k ∧ (∀ x ∈ c, 0 ≤ x) ∧ 0 < c.sum ∧ c.length ≤ 1000 ∧ Φ (B true) O
def sp2 (r : List Int → List Int → Dat) : DSp := fun ds O Φ _ => ∃ a b : List Int, ds = [tI a, tI b] ∧ a.length = b.length ∧ a.length ≤ 1000 ∧ (∀ y ∈ b, 0 ≤ y ∧ y ≤ 100000) ∧ Φ (r a b) O
def spCost : DSp := fun ds O Φ _ => ∃ (a b : List Int) (d : Dat), ds = [tI a, d] ∧ (d = tI b ∨ d = .lst (b.map I)) ∧ a.length = b.length ∧ a.length ≤ 1000 ∧ (∀ y ∈ b, 0 ≤ y ∧ y ≤ 100000) ∧ Φ (I (dot a b)) O
def spLack : DSp := sp2 fun a b => tI (lackC a b)
section
variable {P : Program} {w : World} {K : PySem.W.Frag} {mg : Str → Option Value} {base : Heap} {T : List (Addr × Str)}
theorem cIsInt (t : Tx K mg) (d : Df K mg "is_integer" sIsInt ["value"]) : Cal P w K mg base T CX0 "is_integer" 1 ["value"] spIsInt := by
  refine calD d scIsInt (fun ds O Φ Ψ ⟨d, h, _⟩ => by rw [h]; rfl) fun f cdv A outer s H E H0 O ds Φ Ψ hr ⟨d, e, ok, φ⟩ => ?_
  subst e
  refine wss_one (ws_ret (ret_val (wd_and (wd_isi t.isinstance (wd_name 0 (wd_ty (T := "int") t.int (by decide +kernel) ?_))))))
  unfold okD at ok
  cases ht : tyD d with
  | none => rw [ht] at ok; cases ok
  | some ty =>
    have cases5 : (ty = "NoneType" ∨ ty = "bool" ∨ ty = "int" ∨ ty = "str" ∨ ty = "tuple" ∨ ty = "list" ∨ ty = "dict") := by
      cases d with
      | v x => cases x <;> first | (cases ht; done) | (have e := Option.some.inj ht; subst e; simp)
      | tup ds => have e := Option.some.inj ht; subst e; simp
      | lst ds => have e := Option.some.inj ht; subst e; simp
      | dic => have e := Option.some.inj ht; subst e; simp
      | ins C ns ds => cases ht
      | scr ns => cases ht
      | any => cases ht
    have val : isIntD d = decide (ty = "int") := by
      cases d with
      | v x => cases x <;> first | (cases ht; done) | (have e := Option.some.inj ht; subst e; rfl)
      | tup ds => have e := Option.some.inj ht; subst e; rfl
      | lst ds => have e := Option.some.inj ht; subst e; rfl
      | dic => have e := Option.some.inj ht; subst e; rfl
      | ins C ns ds => cases ht
      | scr ns => cases ht
      | any => cases ht
    rw [val] at φ
    rcases cases5 with e | e | e | e | e | e | e <;> subst e
    · exact ⟨_, _, false, rfl, rfl, by decide +kernel, false, rfl, fun _ => φ, fun z => by cases z⟩
    · exact ⟨_, _, true, rfl, rfl, by decide +kernel, true, rfl, (fun z => by cases z), fun _ => wd_one (wd_not (wd_isi t.isinstance (wd_name 0 (wd_ty (T := "bool") t.bool (by decide +kernel) ⟨_, _, true, ht, rfl, by decide +kernel, true, rfl, φ⟩))))⟩
    · exact ⟨_, _, true, rfl, rfl, by decide +kernel, true, rfl, (fun z => by cases z), fun _ => wd_one (wd_not (wd_isi t.isinstance (wd_name 0 (wd_ty (T := "bool") t.bool (by decide +kernel) ⟨_, _, false, ht, rfl, by decide +kernel, false, rfl, φ⟩))))⟩
    · exact ⟨_, _, false, rfl, rfl, by decide +kernel, false, rfl, fun _ => φ, fun z => by cases z⟩
    · exact ⟨_, _, false, rfl, rfl, by decide +kernel, false, rfl, fun _ => φ, fun z => by cases z⟩
    · exact ⟨_, _, false, rfl, rfl, by decide +kernel, false, rfl, fun _ => φ, fun z => by cases z⟩
    · exact ⟨_, _, false, rfl, rfl, by decide +kernel, false, rfl, fun _ => φ, fun z => by cases z⟩
theorem cIsNum (t : Tx K mg) (d0 : Df K mg "is_integer" sIsInt ["value"]) (d : Df K mg "is_number" sIsNum ["value"]) : Cal P w K mg base T CX0 "is_number" 2 ["value"] spIsNum := by
  refine calD d scIsNum (fun ds O Φ Ψ ⟨d, h, _⟩ => by rw [h]; rfl) fun f cdv A outer s H E H0 O ds Φ Ψ hr ⟨d, e, ok, φ⟩ => ?_
  subst e
  refine wss_one (ws_ret (ret_val (wd_and (wd_call (cIsInt t d0) hr (wa_1 (wd_name 0 ⟨d, rfl, ok, _, rfl, fun z => ?_, fun z => wd_one ?_⟩))))))
  · have e : isNumD d = false := by
      cases d with
      | v x => cases x <;> first | rfl | (cases z; done)
      | _ => rfl
    rw [e] at φ; exact φ
  · cases d with
    | v x =>
      cases x <;> first | (cases z; done) | skip
      exact wd_cmp op_ge (wd_name 0 (wd_int (rr_I0 φ)))
    | _ => cases z
theorem cIsIdx (t : Tx K mg) (d0 : Df K mg "is_integer" sIsInt ["value"]) (d1 : Df K mg "is_number" sIsNum ["value"]) (d : Df K mg "is_index" sIsIdx ["value", "many"]) : Cal P w K mg base T CX0 "is_index" 3 ["value", "many"] spIsIdx := by
  refine calD d scIsIdx (fun ds O Φ Ψ ⟨d, m, h, _⟩ => by rw [h]; rfl) fun f cdv A outer s H E H0 O ds Φ Ψ hr ⟨d, m, e, ok, φ⟩ => ?_
  subst e
  refine wss_one (ws_ret (ret_val (wd_and (wd_call (cIsNum t d0 d1) hr (wa_1 (wd_name 0 ⟨d, rfl, ok, _, rfl, fun z => ?_, fun z => wd_one ?_⟩))))))
  · cases d with
    | v x =>
      cases x with
      | int n =>
        have z : decide (0 ≤ n) = false := z
        have φ : Φ (B (decide (0 ≤ n) && decide (n < m))) O := φ
        rw [z] at φ
        exact φ
      | _ => exact φ
    | _ => exact φ
  · cases d with
    | v x =>
      cases x with
      | int n =>
        have z : decide (0 ≤ n) = true := z
        have φ : Φ (B (decide (0 ≤ n) && decide (n < m))) O := φ
        rw [z] at φ
        exact wd_cmp op_lt (wd_name 0 (wd_name 1 (rr_I0 φ)))
      | _ => cases z
    | _ => cases z
theorem cIsSeq (t : Tx K mg) (d : Df K mg "is_sequence" sIsSeq ["value"]) : Cal P w K mg base T CX0 "is_sequence" 1 ["value"] spIsSeq := by
  refine calD d scIsSeq (fun ds O Φ Ψ ⟨d, h, _⟩ => by rw [h]; rfl) fun f cdv A outer s H E H0 O ds Φ Ψ hr ⟨d, e, ok, φ⟩ => ?_
  subst e
  refine wss_one (ws_ret (ret_val (wd_isiT t.isinstance (wd_name 0 (wd_tup (wa_two (wd_ty (T := "list") t.list (by decide +kernel) (wd_ty (T := "tuple") t.tuple (by decide +kernel) ⟨by decide, ?_⟩))))))))
  cases d with
  | v x => cases x <;> first | (cases ok; done) | exact ⟨_, _, _, false, false, rfl, rfl, by decide +kernel, by decide +kernel, φ⟩
  | tup ds => exact ⟨_, _, _, false, true, rfl, rfl, by decide +kernel, by decide +kernel, φ⟩
  | lst ds => exact ⟨_, _, _, true, false, rfl, rfl, by decide +kernel, by decide +kernel, φ⟩
  | dic => exact ⟨_, _, _, false, false, rfl, rfl, by decide +kernel, by decide +kernel, φ⟩
  | ins C ns ds => cases ok
  | scr ns => cases ok
  | any => cases ok
/-- the pairs of a zip -/
theorem zipY {a b : List Int} {i : Nat} {d : Dat} (h : ∃ x y, (a.map I)[i]? = some x ∧ (b.map I)[i]? = some y ∧ d = .tup [x, y]) : ∃ x y : Int, a[i]? = some x ∧ b[i]? = some y ∧ d = .tup [I x, I y] := by
  obtain ⟨x, y, h1, h2, e⟩ := h
  obtain ⟨n, q1, e1⟩ := ints_get h1
  obtain ⟨m, q2, e2⟩ := ints_get h2
  exact ⟨n, m, q1, q2, by rw [e, e1, e2]⟩
theorem zw_get {α β γ : Type} {f : α → β → γ} {a : List α} {b : List β} {i : Nat} {x : α} {y : β} (h1 : a[i]? = some x) (h2 : b[i]? = some y) : (List.zipWith f a b)[i]? = some (f x y) := by
  rw [List.getElem?_zipWith, h1, h2]
theorem mapI_get {a : List Int} {i : Nat} {x : Int} (h : a[i]? = some x) : (a.map I)[i]? = some (I x) := by rw [List.getElem?_map, h]; rfl
theorem all_zip : ∀ a b : List Int, (List.zipWith (fun x y : Int => decide (x ≤ y)) a b).all id = leCr a b
  | [], _ => by simp [leCr]
  | _ :: _, [] => by simp [leCr]
  | x :: a, y :: b => by
    have := all_zip a b
    unfold leCr at this ⊢
    simp [List.zipWith_cons_cons, List.all_cons, this]
theorem cWith (t : Tx K mg) (d : Df K mg "within" sWithin ["one", "other"]) : Cal P w K mg base T CX0 "within" 1 ["one", "other"] spWith := by
  refine calD d scWithin (fun ds O Φ Ψ ⟨a, b, h, _⟩ => by rw [h]; rfl) fun f cdv A outer s H E H0 O ds Φ Ψ hr ⟨a, b, e, hl, hl2, φ⟩ => ?_
  subst e
  refine wss_one (ws_ret (ret_val (wd_all t.all (wd_lc [("x", 2), ("y", 3)] (gTup K 2 (gCons (gName 2) (gCons (gName 3) gNil))) (gw_tup (by decide) (by decide)) scWithin.nd (blkOk_by (N := ["one", "other", "x", "y"]) (sc := defScope sWithin) (by decide +kernel)) (fun s H C cl fp => pg2 2 3 scWithin.nd) (wi_zipT t.zip (wd_name 0 (wd_name 1 ⟨a.map I, b.map I, rfl, rfl, ?_⟩)))))))
  refine lcw_map ((List.zipWith (fun x y : Int => decide (x ≤ y)) a b).map B) (by simp) (by simp; omega) trivial (fun i d hi hy => ?_) (.inl ⟨_, .lst, ?_⟩)
  · obtain ⟨x, y, h1, h2, e⟩ := zipY hy
    subst e
    exact rg2 ⟨rfl, fun s0 H1 C cl fp => wd_cmp op_le (wd_name 2 (wd_name 3 (rr_I0 ⟨by rw [List.getElem?_map, zw_get h1 h2]; rfl, rfl⟩)))⟩
  · rw [all_zip]; exact φ
theorem cLess (t : Tx K mg) (d : Df K mg "less" sLess ["one", "other"]) : Cal P w K mg base T CX0 "less" 1 ["one", "other"] spLess := by
  refine calD d scLess (fun ds O Φ Ψ ⟨a, b, h, _⟩ => by rw [h]; rfl) fun f cdv A outer s H E H0 O ds Φ Ψ hr ⟨a, b, e, hl, hl2, φ⟩ => ?_
  subst e
  refine wss_one (ws_ret (ret_val (wd_tupleOf t.tuple (wd_lc [("x", 2), ("y", 3)] (gTup K 2 (gCons (gName 2) (gCons (gName 3) gNil))) (gw_tup (by decide) (by decide)) scLess.nd (blkOk_by (N := ["one", "other", "x", "y"]) (sc := defScope sLess) (by decide +kernel)) (fun s H C cl fp => pg2 2 3 scLess.nd) (wi_zipT t.zip (wd_name 0 (wd_name 1 ⟨a.map I, b.map I, rfl, rfl, ?_⟩)))))))
  refine lcw_map ((subC a b).map I) (by simp [subC]) (by simp; omega) trivial (fun i d hi hy => ?_) (.inl ⟨_, .inl .lst, φ⟩)
  obtain ⟨x, y, h1, h2, e⟩ := zipY hy
  subst e
  exact rg2 ⟨rfl, fun s0 H1 C cl fp => wd_op op_sub (wd_name 2 (wd_name 3 (rr_I0 ⟨mapI_get (zw_get h1 h2), rfl⟩)))⟩
theorem cMore (t : Tx K mg) (d : Df K mg "more" sMore ["one", "other"]) : Cal P w K mg base T CX0 "more" 1 ["one", "other"] spMore := by
  refine calD d scMore (fun ds O Φ Ψ ⟨a, b, h, _⟩ => by rw [h]; rfl) fun f cdv A outer s H E H0 O ds Φ Ψ hr ⟨a, b, e, hl, hl2, φ⟩ => ?_
  subst e
  refine wss_one (ws_ret (ret_val (wd_tupleOf t.tuple (wd_lc [("x", 2), ("y", 3)] (gTup K 2 (gCons (gName 2) (gCons (gName 3) gNil))) (gw_tup (by decide) (by decide)) scMore.nd (blkOk_by (N := ["one", "other", "x", "y"]) (sc := defScope sMore) (by decide +kernel)) (fun s H C cl fp => pg2 2 3 scMore.nd) (wi_zipT t.zip (wd_name 0 (wd_name 1 ⟨a.map I, b.map I, rfl, rfl, ?_⟩)))))))
  refine lcw_map ((addC a b).map I) (by simp [addC]) (by simp; omega) trivial (fun i d hi hy => ?_) (.inl ⟨_, .inl .lst, φ⟩)
  obtain ⟨x, y, h1, h2, e⟩ := zipY hy
  subst e
  exact rg2 ⟨rfl, fun s0 H1 C cl fp => wd_op op_add (wd_name 2 (wd_name 3 (rr_I0 ⟨mapI_get (zw_get h1 h2), rfl⟩)))⟩
theorem repI (k : Nat) : List.replicate k (I 0) = (List.replicate k (0 : Int)).map I := by rw [List.map_replicate]
theorem cNobody (d : Df K mg "nobody" sNobody ["kinds"]) : Cal P w K mg base T CX0 "nobody" 1 ["kinds"] spNobody := by
  refine calD d scNobody (fun ds O Φ Ψ ⟨k, h, _⟩ => by rw [h]; rfl) fun f cdv A outer s H E H0 O ds Φ Ψ hr ⟨k, e, h1, h2, φ⟩ => ?_
  subst e
  refine wss_one (ws_ret (ret_val (wd_op op_rep1 (wd_tup (wa_1 (wd_int ⟨by decide, wd_name 0 (rr_rep (k := (k : Int)) (by omega) (by omega) ?_)⟩))))))
  rw [Int.toNat_natCast, repI]
  exact φ
theorem cCostOf (t : Tx K mg) (d : Df K mg "cost_of" sCostOf ["crowd", "costs"]) : Cal P w K mg base T CX0 "cost_of" 1 ["crowd", "costs"] spCost := by
  refine calD d scCostOf (fun ds O Φ Ψ ⟨a, b, d, h, _⟩ => by rw [h]; rfl) fun f cdv A outer s H E H0 O ds Φ Ψ hr ⟨a, b, dd, e, hd, hl, hl2, hb, φ⟩ => ?_
  subst e
  rcases hd with hd | hd <;> subst hd
  · refine wss_one (ws_ret (ret_val (wd_sum t.sum (wd_lc [("x", 2), ("cost", 3)] (gTup K 2 (gCons (gName 2) (gCons (gName 3) gNil))) (gw_tup (by decide) (by decide)) scCostOf.nd (blkOk_by (N := ["crowd", "costs", "x", "cost"]) (sc := defScope sCostOf) (by decide +kernel)) (fun s H C cl fp => pg2 2 3 scCostOf.nd) (wi_zipT t.zip (wd_name 0 (wd_name 1 ⟨a.map I, b.map I, rfl, rfl, ?_⟩)))))))
    refine lcw_map ((List.zipWith (· * ·) a b).map I) (by simp) (by simp; omega) trivial (fun i d hi hy => ?_) (.inl ⟨_, .lst, φ⟩)
    obtain ⟨x, y, h1, h2, e⟩ := zipY hy
    subst e
    have hy := hb y (List.mem_of_getElem? h2)
    exact rg2 ⟨rfl, fun s0 H1 C cl fp => wd_op op_mul (wd_name 2 (wd_name 3 (rr_I (.inr ⟨by omega, by omega⟩) ⟨mapI_get (zw_get h1 h2), rfl⟩)))⟩
  · refine wss_one (ws_ret (ret_val (wd_sum t.sum (wd_lc [("x", 2), ("cost", 3)] (gTup K 2 (gCons (gName 2) (gCons (gName 3) gNil))) (gw_tup (by decide) (by decide)) scCostOf.nd (blkOk_by (N := ["crowd", "costs", "x", "cost"]) (sc := defScope sCostOf) (by decide +kernel)) (fun s H C cl fp => pg2 2 3 scCostOf.nd) (wi_zipM t.zip (wd_name 0 (wd_name 1 ⟨a.map I, b.map I, rfl, rfl, ?_⟩)))))))
    refine lcw_map ((List.zipWith (· * ·) a b).map I) (by simp) (by simp; omega) trivial (fun i d hi hy => ?_) (.inl ⟨_, .lst, φ⟩)
    obtain ⟨x, y, h1, h2, e⟩ := zipY hy
    subst e
    have hy := hb y (List.mem_of_getElem? h2)
    exact rg2 ⟨rfl, fun s0 H1 C cl fp => wd_op op_mul (wd_name 2 (wd_name 3 (rr_I (.inr ⟨by omega, by omega⟩) ⟨mapI_get (zw_get h1 h2), rfl⟩)))⟩
theorem cLacking (t : Tx K mg) (d : Df K mg "lacking" sLacking ["crowd", "batch"]) : Cal P w K mg base T CX0 "lacking" 1 ["crowd", "batch"] spLack := by
  refine calD d scLacking (fun ds O Φ Ψ ⟨a, b, h, _⟩ => by rw [h]; rfl) fun f cdv A outer s H E H0 O ds Φ Ψ hr ⟨a, b, e, hl, hl2, hb, φ⟩ => ?_
  subst e
  refine wss_one (ws_ret (ret_val (wd_tupleOf t.tuple (wd_lc [("x", 2), ("y", 3)] (gTup K 2 (gCons (gName 2) (gCons (gName 3) gNil))) (gw_tup (by decide) (by decide)) scLacking.nd (blkOk_by (N := ["crowd", "batch", "x", "y"]) (sc := defScope sLacking) (by decide +kernel)) (fun s H C cl fp => pg2 2 3 scLacking.nd) (wi_zipT t.zip (wd_name 0 (wd_name 1 ⟨a.map I, b.map I, rfl, rfl, ?_⟩)))))))
  refine lcw_map ((lackC a b).map I) (by simp [lackC]) (by simp; omega) trivial (fun i d hi hy => ?_) (.inl ⟨_, .inl .lst, φ⟩)
  obtain ⟨x, y, h1, h2, e⟩ := zipY hy
  subst e
  exact rg2 ⟨rfl, fun s0 H1 C cl fp => wd_op op_sub (wd_name 2 (wd_min2 t.min (wd_name 2 (wd_name 3 ⟨x, y, rfl, rfl, rr_I0 ⟨mapI_get (zw_get h1 h2), rfl⟩⟩))))⟩
theorem cIsBatch (t : Tx K mg) (d0 : Df K mg "is_integer" sIsInt ["value"]) (d1 : Df K mg "is_number" sIsNum ["value"]) (d : Df K mg "is_batch" sIsBatch ["kinds", "value"]) : Cal P w K mg base T CX0 "is_batch" 3 ["kinds", "value"] spIsBatch := by
  refine calD d scIsBatch (fun ds O Φ Ψ ⟨k, c, h, _⟩ => by rw [h]; rfl) fun f cdv A outer s H E H0 O ds Φ Ψ hr ⟨k, c, e, hk, h0, hs, hl, φ⟩ => ?_
  subst e
  refine wss_cons (ws_if (wt_ww (ww_or (wt_not (wt_val (wd_isi t.isinstance (wd_name 1 (wd_ty (T := "tuple") t.tuple (by decide +kernel) ⟨"tuple", "tuple", true, rfl, rfl, by decide +kernel, true, rfl, (fun z => by cases z), fun _ => ?_⟩))))))))
  refine ww_or (wt_cmp op_ne (wd_len t.len (wd_name 1 ⟨_, .inr rfl, wd_name 0 (rr_ne rfl ⟨_, rfl, fun z => ?_, fun _ => ww_or1 (wt_not ?_)⟩)⟩)))
  · simp [hk] at z
  refine wt_val (wd_all t.all (wd_lc [("x", 2)] (gName 2) (gw_name (by decide)) scIsBatch.nd (blkOk_by (N := ["kinds", "value", "x"]) (sc := defScope sIsBatch) (by decide +kernel)) (fun s H C cl fp => pg_name scIsBatch.nd rfl (.inl rfl) (.inr rfl)) (wi_tup (wd_name 1 ⟨c.map I, rfl, ?_⟩))))
  refine lcw_map ((c.map fun _ => true).map B) (by simp) (by simp; omega) trivial (fun i d hi hy => ?_) (.inl ⟨_, .lst, true, by simp, fun z => ?_, fun _ => ?_⟩)
  · obtain ⟨x, h1, e⟩ := ints_get hy
    subst e
    refine rg_name ⟨rfl, fun s0 H1 C cl fp => wd_call (cIsNum t d0 d1) hr (wa_1 (wd_name 2 ⟨I x, rfl, rfl, ?_, rfl⟩))⟩
    rw [List.map_map, List.getElem?_map, h1]
    have : isNumD (I x) = true := decide_eq_true (h0 x (List.mem_of_getElem? h1))
    rw [this]; rfl
  · cases z
  · exact wss_nil (wss_one (ws_ret (ret_val (wd_cmp op_gt (wd_sumT t.sum (wd_name 1 ⟨c, rfl, wd_int (rr_I0 (by rw [decide_eq_true hs]; exact φ))⟩))))))
end
end DL

set_option Elab.async false
set_option linter.all false
set_option maxRecDepth 100000
set_option maxHeartbeats 4000000
/-! WK2: books, crowds and runs checked -/
namespace DL
open PySem PySem.Spec PyProof.Rows L2
section
variable {z : En} {X : Cx} {e a b c o i elt tg iter : Expr} {Γ : Env'} {O : OHp} {Φ : Dat → OHp → Prop}
/-- enumerate of a list or a tuple that is known -/
theorem wi_enumQ {p pos tpos : Pos} {elts : List Expr} {kk : Nat} {F : Nat → (Nat → Dat → Prop) → (OHp → Prop) → OHp → Prop} (hm : X.mg "enumerate" = none) (d0 : Dat) (ds : List Dat) (hs0 : seqD d0 = some ds) (h : WD z X e Γ O fun d O1 => d = d0 ∧ ∀ C : OHp → Prop, (∀ O', C O') → F ds.length (fun i d => ∃ x, ds[i]? = some x ∧ d = .tup [I (i : Nat), x]) C O1)
    (hg : Gl X "enumerate" := by rfl) (hs : starEach [e] X.env = [(false, eval e X.env)] := by rfl) : WI z X (.Tuple elts kk tpos) (.Call (.Name "enumerate" p) [e] [] pos) Γ O F := by
  cases d0 with
  | lst xs =>
    have e1 : xs = ds := Option.some.inj hs0
    subst e1
    exact wi_enumL hm (rd_imp h fun d O1 ⟨q1, q2⟩ => ⟨xs, by rw [q1]; exact .lst, by subst q1; exact q2 _ fun _ => .lst⟩) hg hs
  | tup xs =>
    have e1 : xs = ds := Option.some.inj hs0
    subst e1
    exact wi_enumT hm (rd_imp h fun d O1 ⟨q1, q2⟩ => ⟨xs, q1, q2 _ fun _ => trivial⟩) hg hs
  | v x => cases hs0
  | ins C ns xs => cases hs0
  | dic => cases hs0
  | scr ns => cases hs0
  | any => cases hs0
end
/-! ### data -/
def bookD (C : Addr) (k : Nat) (bs : List (List Int)) : Dat := .ins C ["kinds", "batches", "_found"] [I k, .tup (bs.map tI), .dic]
structure Bk (K : PySem.W.Frag) (C : Addr) : Prop where
  cls : Cls K C
  n1 : NoAttr K C "kinds"
  n2 : NoAttr K C "batches"
  n3 : NoAttr K C "_found"
/-- the exceptions -/
structure Xs (P : Program) (w : World) (K : PySem.W.Frag) (mg : Str → Option Value) (base : Heap) (cB cC cR cQ : Addr) : Prop where
  book : Exc1 P w K mg base "InvalidBook" cB
  crowd : Exc1 P w K mg base "InvalidCrowd" cC
  run : Exc1 P w K mg base "InvalidRun" cR
  quest : Exc1 P w K mg base "InvalidQuestion" cQ
/-- a list is looked through: each good, and k of them -/
def Chk (p : Dat → Bool) (k : Nat) (d : Dat) (ok : List Dat → Prop) (bad : Int → Prop) : Prop := match seqD d with
  | none => bad k
  | some xs => (∀ (i : Nat) d', xs[i]? = some d' → p d' = false → (∀ (j : Nat), j < i → ∀ d'', xs[j]? = some d'' → p d'' = true) → bad i) ∧ ((∀ x ∈ xs, p x = true) → (xs.length ≠ k → bad k) ∧ (xs.length = k → ok xs))
def seqOk (d : Dat) : Prop := okD d = true ∧ ∀ xs, seqD d = some xs → xs.length ≤ 1000 ∧ ∀ x ∈ xs, okD x = true
abbrev sChkCrowd : Stmt := topS 19
abbrev sChkRun : Stmt := topS 21
abbrev sCrowdOf : Stmt := topS 22
abbrev sChkCosts : Stmt := topS 24
theorem scChkCrowd : FnScope ["book", "value", "at", "x"] ["book", "value"] (defScope sChkCrowd) := C8.fnScope_by (by decide +kernel)
theorem scChkRun : FnScope ["book", "run", "at", "batch"] ["book", "run"] (defScope sChkRun) := C8.fnScope_by (by decide +kernel)
theorem scCrowdOf : FnScope ["book", "run", "found", "batch"] ["book", "run"] (defScope sCrowdOf) := C8.fnScope_by (by decide +kernel)
theorem scChkCosts : FnScope ["book", "costs", "at", "x"] ["book", "costs"] (defScope sChkCosts) := C8.fnScope_by (by decide +kernel)
def spChk (p : Dat → Bool) (cX C : Addr) : DSp := fun ds O Φ Ψ => ∃ k bs d, ds = [bookD C k bs, d] ∧ seqOk d ∧ Chk p k d (fun xs => Φ (.tup xs) O) (fun i => Ψ cX (I i) O)
section
variable {P : Program} {w : World} {K : PySem.W.Frag} {mg : Str → Option Value} {base : Heap} {T : List (Addr × Str)} {cB cC cR cQ C : Addr}
/-- seq, of all that may be looked through -/
theorem seq_none {d : Dat} {b : Bool} (h : (seqD d).isSome = b) : (b = false → seqD d = none) ∧ (b = true → ∃ xs, seqD d = some xs) := by
  cases e : seqD d with
  | none => rw [e] at h; subst h; exact ⟨fun _ => rfl, (fun z => nomatch z)⟩
  | some xs => rw [e] at h; subst h; exact ⟨(fun z => nomatch z), fun _ => ⟨xs, rfl⟩⟩
theorem seq_sees {O : OHp} {d : Dat} {xs : List Dat} (h : seqD d = some xs) : SeesQ O d xs := by
  cases d with
  | lst ys => have e : ys = xs := Option.some.inj h; subst e; exact .inl (.inl rfl)
  | tup ys => have e : ys = xs := Option.some.inj h; subst e; exact .inr rfl
  | v x => cases h
  | ins C ns xs => cases h
  | dic => cases h
  | scr ns => cases h
  | any => cases h
theorem cChkCrowd (t : Tx K mg) (xc : Exc1 P w K mg base "InvalidCrowd" cC) (bk : Bk K C) (i0 : Cal P w K mg base T CX0 "is_number" 2 ["value"] spIsNum) (i1 : Cal P w K mg base T CX0 "is_sequence" 1 ["value"] spIsSeq) (d : Df K mg "checked_crowd" sChkCrowd ["book", "value"]) :
    Cal P w K mg base T (L2.CX P w) "checked_crowd" 3 ["book", "value"] (spChk isNumD cC C) := by
  refine calX d scChkCrowd (fun ds O Φ Ψ ⟨k, bs, d, h, _⟩ => by rw [h]; rfl) fun f cdv A outer s H E H0 O ds Φ Ψ hr ⟨k, bs, d, e, sq, ck⟩ lk => ?_
  subst e
  have hr2 : Room 2 _ := hr
  refine wss_cons (ws_if (wt_not (wt_val (wd_call i1 (hr.mono (by decide)) (wa_1 (wd_name 1 ⟨d, rfl, sq.1, _, rfl, fun q => ?_, fun q => ?_⟩))))))
  · -- no sequence
    have hn := (seq_none (d := d) rfl).1 (by simpa using q)
    unfold Chk at ck
    rw [hn] at ck
    exact wss_one (ws_raise xc hr2 (takes_of rfl rfl rfl rfl) lk (wd_fld (wd_name 0 ⟨C, _, _, _, rfl, bk.cls, bk.n1, rfl, ck⟩)))
  · obtain ⟨xs, hx⟩ := (seq_none (d := d) rfl).2 (by simpa using q)
    unfold Chk at ck
    rw [hx] at ck
    obtain ⟨ck1, ck2⟩ := ck
    obtain ⟨hl, hok⟩ := sq.2 xs hx
    refine wss_nil (wss_cons (ws_for (passes_of rfl) (pg2 2 3 scChkCrowd.nd) (wi_enumQ t.enumerate d xs hx (wd_name 1 ⟨rfl, fun Cd hCd => ⟨fun i Γ' O' => (∃ y2 y3, Γ' = [some (bookD C k bs), some d, y2, y3]) ∧ O' = O ∧ ∀ (j : Nat), j < i → ∀ d', xs[j]? = some d' → isNumD d' = true, ⟨⟨_, _, rfl⟩, rfl, fun j hj => by omega⟩, fun i Γ' O' _ => hCd O', ?_, ?_⟩⟩))))
    · rintro i d2 Γ' O' hi ⟨⟨y2, y3, rfl⟩, rfl, hall⟩ ⟨x, hxi, rfl⟩
      refine rg2 (wss_one (ws_if (wt_not (wt_val (wd_call i0 hr2 (wa_1 (wd_name 3 ⟨x, rfl, hok x (List.mem_of_getElem? hxi), _, rfl, fun q => ?_, fun q => ?_⟩)))))))
      · exact wss_one (ws_raise xc hr2 (takes_of rfl rfl rfl rfl) lk (wd_name 2 (ck1 i x hxi (by simpa using q) hall)))
      · refine wss_nil ⟨⟨_, _, rfl⟩, rfl, fun j hj d' hd' => ?_⟩
        by_cases hji : j = i
        · subst hji
          rw [hxi] at hd'
          cases hd'
          simpa using q
        · exact hall j (by omega) d' hd'
    · rintro Γ' O' ⟨⟨y2, y3, rfl⟩, rfl, hall⟩
      have hA : ∀ x ∈ xs, isNumD x = true := fun x hx => by
        obtain ⟨j, hj⟩ := List.getElem?_of_mem hx
        exact hall j (List.getElem?_eq_some_iff.mp hj).1 x hj
      obtain ⟨c1, c2⟩ := ck2 hA
      refine wss_cons (ws_if (wt_cmp op_ne (wd_len t.len (wd_name 1 ⟨xs, seq_sees hx, wd_fld (wd_name 0 ⟨C, _, _, _, rfl, bk.cls, bk.n1, rfl, rr_ne rfl ⟨_, rfl, fun q => ?_, fun q => ?_⟩⟩)⟩))))
      · exact wss_one (ws_raise xc hr2 (takes_of rfl rfl rfl rfl) lk (wd_fld (wd_name 0 ⟨C, _, _, _, rfl, bk.cls, bk.n1, rfl, c1 fun z => by simp [z] at q⟩)))
      · exact wss_nil (wss_one (ws_ret (ret_val (wd_tupleOf t.tuple (wd_name 1 ⟨xs, seq_sees hx, c2 (by simpa [Int.natCast_inj] using q)⟩)))))
theorem cChkCosts (t : Tx K mg) (xq : Exc1 P w K mg base "InvalidQuestion" cQ) (bk : Bk K C) (i0 : Cal P w K mg base T CX0 "is_number" 2 ["value"] spIsNum) (i1 : Cal P w K mg base T CX0 "is_sequence" 1 ["value"] spIsSeq) (d : Df K mg "checked_costs" sChkCosts ["book", "costs"]) :
    Cal P w K mg base T (L2.CX P w) "checked_costs" 3 ["book", "costs"] (spChk isPosD cQ C) := by
  refine calX d scChkCosts (fun ds O Φ Ψ ⟨k, bs, d, h, _⟩ => by rw [h]; rfl) fun f cdv A outer s H E H0 O ds Φ Ψ hr ⟨k, bs, d, e, sq, ck⟩ lk => ?_
  subst e
  have hr2 : Room 2 _ := hr
  refine wss_cons (ws_if (wt_not (wt_val (wd_call i1 (hr.mono (by decide)) (wa_1 (wd_name 1 ⟨d, rfl, sq.1, _, rfl, fun q => ?_, fun q => ?_⟩))))))
  · have hn := (seq_none (d := d) rfl).1 (by simpa using q)
    unfold Chk at ck
    rw [hn] at ck
    exact wss_one (ws_raise xq hr2 (takes_of rfl rfl rfl rfl) lk (wd_fld (wd_name 0 ⟨C, _, _, _, rfl, bk.cls, bk.n1, rfl, ck⟩)))
  · obtain ⟨xs, hx⟩ := (seq_none (d := d) rfl).2 (by simpa using q)
    unfold Chk at ck
    rw [hx] at ck
    obtain ⟨ck1, ck2⟩ := ck
    obtain ⟨hl, hok⟩ := sq.2 xs hx
    refine wss_nil (wss_cons (ws_for (passes_of rfl) (pg2 2 3 scChkCosts.nd) (wi_enumQ t.enumerate d xs hx (wd_name 1 ⟨rfl, fun Cd hCd => ⟨fun i Γ' O' => (∃ y2 y3, Γ' = [some (bookD C k bs), some d, y2, y3]) ∧ O' = O ∧ ∀ (j : Nat), j < i → ∀ d', xs[j]? = some d' → isPosD d' = true, ⟨⟨_, _, rfl⟩, rfl, fun j hj => by omega⟩, fun i Γ' O' _ => hCd O', ?_, ?_⟩⟩))))
    · rintro i d2 Γ' O' hi ⟨⟨y2, y3, rfl⟩, rfl, hall⟩ ⟨x, hxi, rfl⟩
      refine rg2 (wss_one (ws_if (wt_ww (ww_or (wt_not (wt_val (wd_call i0 hr2 (wa_1 (wd_name 3 ⟨x, rfl, hok x (List.mem_of_getElem? hxi), _, rfl, fun q => ?_, fun q => ww_or1 ?_⟩)))))))))
      · have hb : isPosD x = false := by
          have q : isNumD x = false := by simpa using q
          cases x with
          | v y =>
            cases y with
            | int n =>
              have q : decide (0 ≤ n) = false := q
              have q := of_decide_eq_false q
              exact decide_eq_false (by omega)
            | _ => rfl
          | _ => rfl
        exact ⟨fun _ => wss_one (ws_raise xq hr2 (takes_of rfl rfl rfl rfl) lk (wd_name 2 (ck1 i x hxi hb hall))), (fun z => nomatch z)⟩
      · have q : isNumD x = true := by simpa using q
        cases x with
        | v y =>
          cases y with
          | int n =>
            have q : decide (0 ≤ n) = true := q
            have q := of_decide_eq_true q
            refine wt_cmp op_eq (wd_name 3 (wd_int (rr_eq rfl ⟨_, rfl, fun q2 => ?_, fun q2 => ?_⟩)))
            · have q2 : n = 0 := by simpa using q2
              exact wss_one (ws_raise xq hr2 (takes_of rfl rfl rfl rfl) lk (wd_name 2 (ck1 i _ hxi (decide_eq_false (by omega)) hall)))
            · refine wss_nil ⟨⟨_, _, rfl⟩, rfl, fun j hj d' hd' => ?_⟩
              by_cases hji : j = i
              · subst hji
                rw [hxi] at hd'
                cases hd'
                have q2 : ¬ n = 0 := by simpa using q2
                exact decide_eq_true (by omega)
              · exact hall j (by omega) d' hd'
          | _ => cases q
        | _ => cases q
    · rintro Γ' O' ⟨⟨y2, y3, rfl⟩, rfl, hall⟩
      have hA : ∀ x ∈ xs, isPosD x = true := fun x hx => by
        obtain ⟨j, hj⟩ := List.getElem?_of_mem hx
        exact hall j (List.getElem?_eq_some_iff.mp hj).1 x hj
      obtain ⟨c1, c2⟩ := ck2 hA
      refine wss_cons (ws_if (wt_cmp op_ne (wd_len t.len (wd_name 1 ⟨xs, seq_sees hx, wd_fld (wd_name 0 ⟨C, _, _, _, rfl, bk.cls, bk.n1, rfl, rr_ne rfl ⟨_, rfl, fun q => ?_, fun q => ?_⟩⟩)⟩))))
      · exact wss_one (ws_raise xq hr2 (takes_of rfl rfl rfl rfl) lk (wd_fld (wd_name 0 ⟨C, _, _, _, rfl, bk.cls, bk.n1, rfl, c1 fun z => by simp [z] at q⟩)))
      · exact wss_nil (wss_one (ws_ret (ret_val (wd_tupleOf t.tuple (wd_name 1 ⟨xs, seq_sees hx, c2 (by simpa [Int.natCast_inj] using q)⟩)))))
/-! ### runs -/
def runD (run : List Nat) : Dat := .tup (run.map fun (i : Nat) => I (i : Int))
theorem run_get {run : List Nat} {i : Nat} {d : Dat} (h : (run.map fun (i : Nat) => I (i : Int))[i]? = some d) : ∃ n : Nat, run[i]? = some n ∧ d = I (n : Int) := by
  rw [List.getElem?_map] at h
  cases e : run[i]? with
  | none => rw [e] at h; cases h
  | some n => rw [e] at h; exact ⟨n, rfl, (Option.some.inj h).symm⟩
def spChkRun (C : Addr) : DSp := fun ds O Φ _ => ∃ k bs run, ds = [bookD C k bs, runD run] ∧ run.length ≤ 1000 ∧ (∀ i ∈ run, i < bs.length) ∧ Φ (runD run) O
theorem cChkRun (t : Tx K mg) (bk : Bk K C) (i0 : Cal P w K mg base T CX0 "is_index" 3 ["value", "many"] spIsIdx) (i1 : Cal P w K mg base T CX0 "is_sequence" 1 ["value"] spIsSeq) (d : Df K mg "checked_run" sChkRun ["book", "run"]) :
    Cal P w K mg base T CX0 "checked_run" 4 ["book", "run"] (spChkRun C) := by
  refine calD d scChkRun (fun ds O Φ Ψ ⟨k, bs, run, h, _⟩ => by rw [h]; rfl) fun f cdv A outer s H E H0 O ds Φ Ψ hr ⟨k, bs, run, e, hl, hi, φ⟩ => ?_
  subst e
  refine wss_cons (ws_if (wt_not (wt_val (wd_call i1 (hr.mono (by decide)) (wa_1 (wd_name 1 ⟨runD run, rfl, rfl, _, rfl, (fun q => by cases q), fun _ => wss_nil ?_⟩))))))
  refine wss_cons (ws_for PassesOwn.never (pg2 2 3 scChkRun.nd) (wi_enumT t.enumerate (wd_name 1 ⟨_, rfl, fun i Γ' O' => (∃ y2 y3, Γ' = [some (bookD C k bs), some (runD run), y2, y3]) ∧ O' = O, ⟨⟨_, _, rfl⟩, rfl⟩, fun _ _ _ _ => trivial, ?_, ?_⟩)))
  · rintro i d2 Γ' O' hii ⟨⟨y2, y3, rfl⟩, rfl⟩ ⟨x, hx, rfl⟩
    obtain ⟨n, hn, rfl⟩ := run_get hx
    have hlt := hi n (List.mem_of_getElem? hn)
    refine rg2 (wss_one (ws_if (wt_not (wt_val (wd_call i0 hr (wa_two (wd_name 3 (wd_len t.len (wd_fld (wd_name 0 ⟨C, _, _, _, rfl, bk.cls, bk.n2, rfl, _, .inr rfl, I n, (bs.map tI).length, rfl, rfl, _, rfl, fun q => ?_, fun q => wss_nil ⟨⟨_, _, rfl⟩, rfl⟩⟩))))))))))
    have e1 : decide ((0 : Int) ≤ (n : Int)) = true := decide_eq_true (by omega)
    have e2 : decide ((n : Int) < ((bs.map tI).length : Int)) = true := decide_eq_true (by rw [List.length_map]; omega)
    have q : (!(decide ((0 : Int) ≤ (n : Int)) && decide ((n : Int) < ((bs.map tI).length : Int)))) = true := q
    rw [e1, e2] at q
    cases q
  · rintro Γ' O' ⟨⟨y2, y3, rfl⟩, rfl⟩
    exact wss_one (ws_ret (ret_val (wd_tupleOf t.tuple (wd_name 1 ⟨_, .inr rfl, φ⟩))))
def sumRun (k : Nat) (bs : List (List Int)) (run : List Nat) : List Int := run.foldl (fun acc i => addC acc (bs.getD i [])) (List.replicate k 0)
theorem addC_len {k : Nat} {a b : List Int} (h1 : a.length = k) (h2 : b.length = k) : (addC a b).length = k := by unfold addC; simp [h1, h2]
theorem foldRun_len {k : Nat} {bs : List (List Int)} (hb : ∀ b ∈ bs, b.length = k) : ∀ (run : List Nat) (c : List Int), c.length = k → (∀ i ∈ run, i < bs.length) → (run.foldl (fun acc i => addC acc (bs.getD i [])) c).length = k
  | [], c, h, _ => h
  | i :: run, c, h, hi => by
    have hlt := hi i List.mem_cons_self
    have e : bs.getD i [] = bs[i] := by rw [List.getD_eq_getElem?_getD, List.getElem?_eq_getElem hlt]; rfl
    refine foldRun_len hb run (addC c (bs.getD i [])) (addC_len h ?_) fun j hj => hi j (List.mem_cons_of_mem _ hj)
    rw [e]; exact hb _ (List.getElem_mem hlt)
theorem sumRun_len {k : Nat} {bs : List (List Int)} (hb : ∀ b ∈ bs, b.length = k) {run : List Nat} (hi : ∀ i ∈ run, i < bs.length) : (sumRun k bs run).length = k := foldRun_len hb run _ (by simp) hi
def spCrowdOf (C : Addr) : DSp := fun ds O Φ _ => ∃ k bs run, ds = [bookD C k bs, runD run] ∧ 1 ≤ k ∧ k ≤ 1000 ∧ (∀ b ∈ bs, b.length = k) ∧ run.length ≤ 1000 ∧ (∀ i ∈ run, i < bs.length) ∧ Φ (tI (sumRun k bs run)) O
theorem cCrowdOf (t : Tx K mg) (bk : Bk K C) (i0 : Cal P w K mg base T CX0 "nobody" 1 ["kinds"] spNobody) (i1 : Cal P w K mg base T CX0 "more" 1 ["one", "other"] spMore) (i2 : Cal P w K mg base T CX0 "checked_run" 4 ["book", "run"] (spChkRun C)) (d : Df K mg "crowd_of" sCrowdOf ["book", "run"]) :
    Cal P w K mg base T CX0 "crowd_of" 5 ["book", "run"] (spCrowdOf C) := by
  refine calD d scCrowdOf (fun ds O Φ Ψ ⟨k, bs, run, h, _⟩ => by rw [h]; rfl) fun f cdv A outer s H E H0 O ds Φ Ψ hr ⟨k, bs, run, e, h1, h2, hb, hl, hi, φ⟩ => ?_
  subst e
  refine wss_cons (ws_set 2 (wd_call i0 (hr.mono (by decide)) (wa_1 (wd_fld (wd_name 0 ⟨C, _, _, _, rfl, bk.cls, bk.n1, rfl, k, rfl, h1, h2, ?_⟩)))) scCrowdOf.nd)
  refine wss_cons (ws_for PassesOwn.never (pg_name (i := 3) scCrowdOf.nd rfl (.inl rfl) (.inr rfl)) (wi_tup (wd_call i2 hr (wa_two (wd_name 0 (wd_name 1 ⟨k, bs, run, rfl, hl, hi, _, rfl, fun i Γ' O' => (∃ y3, Γ' = [some (bookD C k bs), some (runD run), some (tI (sumRun k bs (run.take i))), y3]) ∧ O' = O, ⟨⟨_, rfl⟩, rfl⟩, fun _ _ _ _ => trivial, ?_, ?_⟩))))))
  · rintro i d2 Γ' O' hii ⟨⟨y3, rfl⟩, rfl⟩ hx
    obtain ⟨n, hn, rfl⟩ := run_get hx
    have hlt := hi n (List.mem_of_getElem? hn)
    have hbn : bs[n]? = some bs[n] := List.getElem?_eq_getElem hlt
    have sl : (sumRun k bs (run.take i)).length = k := sumRun_len hb fun j hj => hi j (List.mem_of_mem_take hj)
    refine rg_name (wss_one (ws_set 2 (wd_call i1 (hr.mono (by decide)) (wa_two (wd_name 2 (wd_ixT (wd_fld (wd_name 0 ⟨C, _, _, _, rfl, bk.cls, bk.n2, rfl, wd_name 3 ⟨_, (n : Int), tI bs[n], rfl, rfl, atI_ofNat (by rw [List.getElem?_map, hbn]; rfl), sumRun k bs (run.take i), bs[n], rfl, by rw [sl, hb _ (List.getElem_mem hlt)], by rw [sl]; exact h2, ⟨some (I (n : Int)), ?_⟩, rfl⟩⟩)))))) scCrowdOf.nd))
    have e1 : sumRun k bs (run.take (i + 1)) = addC (sumRun k bs (run.take i)) bs[n] := by
      unfold sumRun
      rw [List.take_add_one, hn, List.foldl_append]
      show addC _ (bs.getD n []) = _
      rw [List.getD_eq_getElem?_getD, hbn]; rfl
    rw [e1]; rfl
  · rintro Γ' O' ⟨⟨y3, rfl⟩, rfl⟩
    refine wss_one (ws_ret (ret_val (wd_name 2 ?_)))
    have e1 : run.take ((run.map fun (i : Nat) => I (i : Int)).length) = run := by rw [List.length_map, List.take_length]
    rw [e1]; exact φ
end
end DL

set_option Elab.async false
set_option linter.all false
set_option maxRecDepth 100000
set_option maxHeartbeats 4000000
/-! PL: the plain law: covering a crowd by batches -/
namespace DL
/-! ### crowds by their members -/
abbrev g0 (a : List Int) (j : Nat) : Int := a.getD j 0
theorem g0_zw {f : Int → Int → Int} {a b : List Int} (h : a.length = b.length) {j : Nat} (hj : j < a.length) : g0 (List.zipWith f a b) j = f (g0 a j) (g0 b j) := by
  have h1 : a[j]? = some a[j] := List.getElem?_eq_getElem hj
  have h2 : b[j]? = some b[j] := List.getElem?_eq_getElem (by omega)
  simp only [g0, List.getD_eq_getElem?_getD, zw_get h1 h2, h1, h2]; rfl
theorem g0_out {a : List Int} {j : Nat} (h : a.length ≤ j) : g0 a j = 0 := by
  simp only [g0, List.getD_eq_getElem?_getD, List.getElem?_eq_none h]; rfl
theorem g0_nn {a : List Int} (h : ∀ x ∈ a, 0 ≤ x) (j : Nat) : 0 ≤ g0 a j := by
  by_cases hj : j < a.length
  · simp only [g0, List.getD_eq_getElem?_getD, List.getElem?_eq_getElem hj]
    exact h _ (List.getElem_mem hj)
  · rw [g0_out (by omega)]; exact Int.le_refl 0
theorem ext_g0 {a b : List Int} (h : a.length = b.length) (e : ∀ j, j < a.length → g0 a j = g0 b j) : a = b := by
  apply List.ext_getElem h
  intro j h1 h2
  have := e j h1
  simpa only [g0, List.getD_eq_getElem?_getD, List.getElem?_eq_getElem h1, List.getElem?_eq_getElem h2, Option.getD_some] using this
theorem leCr_iff : ∀ {a b : List Int}, a.length = b.length → (leCr a b = true ↔ ∀ j, g0 a j ≤ g0 b j)
  | [], [], _ => by simp [leCr]
  | [], _ :: _, h => by simp at h
  | _ :: _, [], h => by simp at h
  | x :: a, y :: b, h => by
    have h' : a.length = b.length := by simpa using h
    have ih := leCr_iff h'
    have e : leCr (x :: a) (y :: b) = (decide (x ≤ y) && leCr a b) := rfl
    rw [e, Bool.and_eq_true, decide_eq_true_eq, ih]
    constructor
    · rintro ⟨h1, h2⟩ j
      cases j with
      | zero => exact h1
      | succ j => exact h2 j
    · intro q
      exact ⟨q 0, fun j => q (j + 1)⟩
theorem sum_cons_int (x : Int) (a : List Int) : (x :: a).sum = x + a.sum := List.sum_cons
theorem sum_nn : ∀ {a : List Int}, (∀ x ∈ a, 0 ≤ x) → 0 ≤ a.sum
  | [], _ => Int.le_refl 0
  | x :: a, h => by
    rw [sum_cons_int]
    have := h x List.mem_cons_self
    have := sum_nn (a := a) fun y hy => h y (List.mem_cons_of_mem _ hy)
    omega
theorem sum_pos_ex : ∀ {a : List Int}, 0 < a.sum → ∃ x ∈ a, 0 < x
  | [], h => by simp at h
  | x :: a, h => by
    rw [sum_cons_int] at h
    by_cases hx : 0 < x
    · exact ⟨x, List.mem_cons_self, hx⟩
    · obtain ⟨y, hy, q⟩ := sum_pos_ex (a := a) (by omega)
      exact ⟨y, List.mem_cons_of_mem _ hy, q⟩
theorem g0_le_sum : ∀ {a : List Int} (_ : ∀ x ∈ a, 0 ≤ x) (j : Nat), g0 a j ≤ a.sum
  | [], _, j => by rw [g0_out (by simp)]; exact Int.le_refl 0
  | x :: a, h, 0 => by
    have e : g0 (x :: a) 0 = x := rfl
    rw [e, sum_cons_int]
    have := sum_nn (a := a) fun y hy => h y (List.mem_cons_of_mem _ hy)
    omega
  | x :: a, h, j + 1 => by
    have e : g0 (x :: a) (j + 1) = g0 a j := rfl
    rw [e, sum_cons_int]
    have := g0_le_sum (a := a) (fun y hy => h y (List.mem_cons_of_mem _ hy)) j
    have := h x List.mem_cons_self
    omega
theorem sum_zw_add : ∀ {a b : List Int}, a.length = b.length → (addC a b).sum = a.sum + b.sum
  | [], [], _ => rfl
  | [], _ :: _, h => by simp at h
  | _ :: _, [], h => by simp at h
  | x :: a, y :: b, h => by
    have e : addC (x :: a) (y :: b) = (x + y) :: addC a b := rfl
    rw [e, sum_cons_int, sum_cons_int, sum_cons_int, sum_zw_add (by simpa using h)]
    omega
theorem dot_add : ∀ {a b c : List Int}, a.length = b.length → dot (addC a b) c = dot a c + dot b c
  | [], [], _, _ => by simp [dot, addC]
  | [], _ :: _, _, h => by simp at h
  | _ :: _, [], _, h => by simp at h
  | x :: a, y :: b, [], h => by simp [dot, addC]
  | x :: a, y :: b, z :: c, h => by
    have e : dot (addC (x :: a) (y :: b)) (z :: c) = (x + y) * z + dot (addC a b) c := by
      show (List.zipWith (· * ·) ((x + y) :: addC a b) (z :: c)).sum = _
      rw [List.zipWith_cons_cons, sum_cons_int]; rfl
    have e1 : dot (x :: a) (z :: c) = x * z + dot a c := by
      show (List.zipWith (· * ·) (x :: a) (z :: c)).sum = _
      rw [List.zipWith_cons_cons, sum_cons_int]; rfl
    have e2 : dot (y :: b) (z :: c) = y * z + dot b c := by
      show (List.zipWith (· * ·) (y :: b) (z :: c)).sum = _
      rw [List.zipWith_cons_cons, sum_cons_int]; rfl
    rw [e, e1, e2, dot_add (by simpa using h), Int.add_mul]
    omega
theorem dot_nn : ∀ {a c : List Int}, (∀ x ∈ a, 0 ≤ x) → (∀ x ∈ c, 0 ≤ x) → 0 ≤ dot a c
  | [], _, _, _ => by simp [dot]
  | _ :: _, [], _, _ => by simp [dot]
  | x :: a, z :: c, h1, h2 => by
    have e1 : dot (x :: a) (z :: c) = x * z + dot a c := by
      show (List.zipWith (· * ·) (x :: a) (z :: c)).sum = _
      rw [List.zipWith_cons_cons, sum_cons_int]; rfl
    rw [e1]
    have := dot_nn (a := a) (c := c) (fun y hy => h1 y (List.mem_cons_of_mem _ hy)) fun y hy => h2 y (List.mem_cons_of_mem _ hy)
    have := Int.mul_nonneg (h1 x List.mem_cons_self) (h2 z List.mem_cons_self)
    omega
theorem dot_zero : ∀ (k : Nat) (c : List Int), dot (List.replicate k 0) c = 0
  | 0, _ => by simp [dot]
  | k + 1, [] => by simp [dot]
  | k + 1, z :: c => by
    have e1 : dot (List.replicate (k + 1) 0) (z :: c) = 0 * z + dot (List.replicate k 0) c := by
      show (List.zipWith (· * ·) (0 :: List.replicate k 0) (z :: c)).sum = _
      rw [List.zipWith_cons_cons, sum_cons_int]; rfl
    rw [e1, dot_zero k c]; omega
theorem g0_zero (k j : Nat) : g0 (List.replicate k 0) j = 0 := by
  by_cases h : j < k
  · simp [g0, List.getD_eq_getElem?_getD, List.getElem?_replicate, h]
  · exact g0_out (by simp; omega)
theorem lack_g0 {a b : List Int} (h : a.length = b.length) (j : Nat) : g0 (lackC a b) j = g0 a j - (if g0 b j < g0 a j then g0 b j else g0 a j) := by
  by_cases hj : j < a.length
  · exact g0_zw h hj
  · rw [g0_out (a := lackC a b) (by simp [lackC]; omega), g0_out (a := a) (by omega), g0_out (a := b) (by omega)]; simp
theorem lack_len {a b : List Int} (h : a.length = b.length) : (lackC a b).length = a.length := by simp [lackC, h]
theorem lack_nn {a b : List Int} : ∀ x ∈ lackC a b, 0 ≤ x := by
  intro x hx
  unfold lackC at hx
  obtain ⟨i, hi⟩ := List.getElem?_of_mem hx
  rw [List.getElem?_zipWith] at hi
  split at hi
  · have := Option.some.inj hi
    rw [← this]
    split <;> omega
  · cases hi
theorem lack_sum : ∀ {a b : List Int}, a.length = b.length → (∀ x ∈ a, 0 ≤ x) → (∀ x ∈ b, 0 ≤ x) → (lackC a b).sum ≤ a.sum
  | [], [], _, _, _ => by simp [lackC]
  | [], _ :: _, h, _, _ => by simp at h
  | _ :: _, [], h, _, _ => by simp at h
  | x :: a, y :: b, h, ha, hb => by
    have e : lackC (x :: a) (y :: b) = (x - (if y < x then y else x)) :: lackC a b := rfl
    rw [e, sum_cons_int, sum_cons_int]
    have := lack_sum (a := a) (b := b) (by simpa using h) (fun y hy => ha y (List.mem_cons_of_mem _ hy)) fun y hy => hb y (List.mem_cons_of_mem _ hy)
    have h1 := ha x List.mem_cons_self
    have h2 := hb y List.mem_cons_self
    split <;> omega
theorem lack_lt : ∀ {a b : List Int} (j : Nat), a.length = b.length → (∀ x ∈ a, 0 ≤ x) → (∀ x ∈ b, 0 ≤ x) → 0 < g0 a j → 0 < g0 b j → (lackC a b).sum + 1 ≤ a.sum
  | [], _, j, _, _, _, h, _ => by rw [g0_out (by simp)] at h; omega
  | _ :: _, [], j, h, _, _, _, _ => by simp at h
  | x :: a, y :: b, 0, h, ha, hb, h1, h2 => by
    have e : lackC (x :: a) (y :: b) = (x - (if y < x then y else x)) :: lackC a b := rfl
    rw [e, sum_cons_int, sum_cons_int]
    have := lack_sum (a := a) (b := b) (by simpa using h) (fun y hy => ha y (List.mem_cons_of_mem _ hy)) fun y hy => hb y (List.mem_cons_of_mem _ hy)
    have h1 : 0 < x := h1
    have h2 : 0 < y := h2
    split <;> omega
  | x :: a, y :: b, j + 1, h, ha, hb, h1, h2 => by
    have e : lackC (x :: a) (y :: b) = (x - (if y < x then y else x)) :: lackC a b := rfl
    rw [e, sum_cons_int, sum_cons_int]
    have := lack_lt (a := a) (b := b) j (by simpa using h) (fun y hy => ha y (List.mem_cons_of_mem _ hy)) (fun y hy => hb y (List.mem_cons_of_mem _ hy)) h1 h2
    have h1 := ha x List.mem_cons_self
    have h2 := hb y List.mem_cons_self
    split <;> omega
/-! ### runs -/
structure BatOk (k : Nat) (bs : List (List Int)) : Prop where
  b : ∀ b ∈ bs, b.length = k ∧ (∀ x ∈ b, 0 ≤ x) ∧ 0 < b.sum
def okIdx (bs : List (List Int)) (run : List Nat) : Prop := ∀ i ∈ run, i < bs.length
def bat (bs : List (List Int)) (i : Nat) : List Int := bs.getD i []
theorem bat_mem {bs : List (List Int)} {i : Nat} (h : i < bs.length) : bat bs i ∈ bs := by
  unfold bat
  rw [List.getD_eq_getElem?_getD, List.getElem?_eq_getElem h]
  exact List.getElem_mem h
theorem bat_get {bs : List (List Int)} {i : Nat} {b : List Int} (h : bs[i]? = some b) : bat bs i = b := by
  unfold bat
  rw [List.getD_eq_getElem?_getD, h]; rfl
def colRun (bs : List (List Int)) (j : Nat) (run : List Nat) : Int := (run.map fun i => g0 (bat bs i) j).sum
def costRun (bs : List (List Int)) (costs : List Int) (run : List Nat) : Int := (run.map fun i => dot (bat bs i) costs).sum
section
variable {k : Nat} {bs : List (List Int)} {costs : List Int}
theorem fold_col (hb : ∀ b ∈ bs, b.length = k) : ∀ (run : List Nat) (c : List Int), c.length = k → okIdx bs run → ∀ j, g0 (run.foldl (fun acc i => addC acc (bs.getD i [])) c) j = g0 c j + colRun bs j run
  | [], c, _, _, j => by simp [colRun]
  | i :: run, c, hc, hi, j => by
    have hlt := hi i List.mem_cons_self
    have hl := hb _ (bat_mem hlt)
    have ih := fold_col hb run (addC c (bat bs i)) (addC_len hc hl) (fun x hx => hi x (List.mem_cons_of_mem _ hx)) j
    have e1 : colRun bs j (i :: run) = g0 (bat bs i) j + colRun bs j run := by unfold colRun; rw [List.map_cons, sum_cons_int]
    have e2 : g0 (addC c (bat bs i)) j = g0 c j + g0 (bat bs i) j := by
      by_cases hj : j < c.length
      · exact g0_zw (by rw [hc, hl]) hj
      · rw [g0_out (by rw [addC_len hc hl]; omega), g0_out (a := c) (by omega), g0_out (a := bat bs i) (by omega)]; rfl
    show g0 (run.foldl _ (addC c (bat bs i))) j = _
    rw [ih, e1, e2]
    omega
theorem sumRun_col (hb : ∀ b ∈ bs, b.length = k) {run : List Nat} (hi : okIdx bs run) (j : Nat) : g0 (sumRun k bs run) j = colRun bs j run := by
  have := fold_col hb run (List.replicate k 0) (by simp) hi j
  rw [g0_zero] at this
  unfold sumRun
  rw [this]; omega
theorem fold_cost (hb : ∀ b ∈ bs, b.length = k) : ∀ (run : List Nat) (c : List Int), c.length = k → okIdx bs run → dot (run.foldl (fun acc i => addC acc (bs.getD i [])) c) costs = dot c costs + costRun bs costs run
  | [], c, _, _ => by simp [costRun]
  | i :: run, c, hc, hi => by
    have hlt := hi i List.mem_cons_self
    have hl := hb _ (bat_mem hlt)
    have ih := fold_cost hb run (addC c (bat bs i)) (addC_len hc hl) (fun x hx => hi x (List.mem_cons_of_mem _ hx))
    have e1 : costRun bs costs (i :: run) = dot (bat bs i) costs + costRun bs costs run := by unfold costRun; rw [List.map_cons, sum_cons_int]
    show dot (run.foldl _ (addC c (bat bs i))) costs = _
    rw [ih, e1, dot_add (by rw [hc, hl])]
    omega
theorem sumRun_cost (hb : ∀ b ∈ bs, b.length = k) {run : List Nat} (hi : okIdx bs run) : dot (sumRun k bs run) costs = costRun bs costs run := by
  have := fold_cost (costs := costs) hb run (List.replicate k 0) (by simp) hi
  rw [dot_zero] at this
  unfold sumRun
  rw [this]; omega
theorem col_split (j at_ : Nat) (l1 l2 : List Nat) : colRun bs j (l1 ++ at_ :: l2) = g0 (bat bs at_) j + colRun bs j (l1 ++ l2) := by
  unfold colRun
  rw [List.map_append, List.map_cons, List.sum_append, sum_cons_int, List.map_append, List.sum_append]
  omega
theorem cost_split (at_ : Nat) (l1 l2 : List Nat) : costRun bs costs (l1 ++ at_ :: l2) = dot (bat bs at_) costs + costRun bs costs (l1 ++ l2) := by
  unfold costRun
  rw [List.map_append, List.map_cons, List.sum_append, sum_cons_int, List.map_append, List.sum_append]
  omega
theorem col_cons (j at_ : Nat) (l : List Nat) : colRun bs j (at_ :: l) = g0 (bat bs at_) j + colRun bs j l := col_split j at_ [] l
theorem cost_cons (at_ : Nat) (l : List Nat) : costRun bs costs (at_ :: l) = dot (bat bs at_) costs + costRun bs costs l := cost_split at_ [] l
theorem col_nn (hb : ∀ b ∈ bs, ∀ x ∈ b, 0 ≤ x) {run : List Nat} (hi : okIdx bs run) (j : Nat) : 0 ≤ colRun bs j run := by
  refine sum_nn fun x hx => ?_
  obtain ⟨i, hi', rfl⟩ := List.mem_map.mp hx
  exact g0_nn (hb _ (bat_mem (hi i hi'))) j
theorem cost_nn (hb : ∀ b ∈ bs, ∀ x ∈ b, 0 ≤ x) (hc : ∀ x ∈ costs, 0 ≤ x) {run : List Nat} (hi : okIdx bs run) : 0 ≤ costRun bs costs run := by
  refine sum_nn fun x hx => ?_
  obtain ⟨i, hi', rfl⟩ := List.mem_map.mp hx
  exact dot_nn (hb _ (bat_mem (hi i hi'))) hc
end
/-- a run that covers the crowd -/
def Cov (bs : List (List Int)) (c : List Int) (run : List Nat) : Prop := okIdx bs run ∧ ∀ j, g0 c j ≤ colRun bs j run
/-- the least cost of covering, with a run -/
def CovOK (bs : List (List Int)) (costs c : List Int) : Option (Int × List Nat) → Prop
  | none => ∀ run, ¬ Cov bs c run
  | some (m, run) => Cov bs c run ∧ m = costRun bs costs run ∧ (run.length : Int) ≤ c.sum ∧ ∀ run', Cov bs c run' → m ≤ costRun bs costs run'
section
variable {k : Nat} {bs : List (List Int)} {costs c : List Int}
theorem okIdx_split {at_ : Nat} {l1 l2 : List Nat} (h : okIdx bs (l1 ++ at_ :: l2)) : at_ < bs.length ∧ okIdx bs (l1 ++ l2) :=
  ⟨h at_ (by simp), fun i hi => h i (by
    rcases List.mem_append.mp hi with z | z
    · exact List.mem_append_left _ z
    · exact List.mem_append_right _ (List.mem_cons_of_mem _ z))⟩
/-- a covering run has a batch of each lacking kind; without it, it covers what is lacking then -/
theorem cov_has (B : BatOk k bs) (hc : c.length = k) {run : List Nat} (h : Cov bs c run) {j : Nat} (hj : 0 < g0 c j) : ∃ at_ l1 l2, run = l1 ++ at_ :: l2 ∧ at_ < bs.length ∧ 0 < g0 (bat bs at_) j ∧ Cov bs (lackC c (bat bs at_)) (l1 ++ l2) := by
  have h1 : 0 < colRun bs j run := Int.lt_of_lt_of_le hj (h.2 j)
  obtain ⟨x, hx, hp⟩ := sum_pos_ex h1
  obtain ⟨at_, ha, rfl⟩ := List.mem_map.mp hx
  obtain ⟨l1, l2, rfl⟩ := List.append_of_mem ha
  obtain ⟨o1, o2⟩ := okIdx_split h.1
  have hbl := (B.b _ (bat_mem o1)).1
  refine ⟨at_, l1, l2, rfl, o1, hp, o2, fun i => ?_⟩
  have q := h.2 i
  rw [col_split] at q
  have nn := col_nn (fun b hb => (B.b b hb).2.1) o2 i
  rw [lack_g0 (by rw [hc, hbl])]
  split <;> omega
/-- and the other way round -/
theorem cov_add (B : BatOk k bs) (hc : c.length = k) {run : List Nat} {at_ : Nat} (ha : at_ < bs.length) (h : Cov bs (lackC c (bat bs at_)) run) : Cov bs c (at_ :: run) := by
  have hbl := (B.b _ (bat_mem ha)).1
  refine ⟨fun i hi => (List.mem_cons.mp hi).elim (fun e => e ▸ ha) fun e => h.1 i e, fun j => ?_⟩
  have q := h.2 j
  rw [lack_g0 (by rw [hc, hbl])] at q
  rw [col_cons]
  split at q <;> omega
theorem cov_zero (hz : ∀ j, g0 c j ≤ 0) : Cov bs c [] := ⟨fun i hi => by simp at hi, fun j => by simpa [colRun] using hz j⟩
theorem covOK_zero (B : BatOk k bs) (hcs : ∀ x ∈ costs, 0 ≤ x) (hn : ∀ x ∈ c, 0 ≤ x) (hz : ∀ j, g0 c j ≤ 0) : CovOK bs costs c (some (0, [])) :=
  ⟨cov_zero hz, by simp [costRun], by have := sum_nn hn; simpa using this, fun run' h => cost_nn (fun b hb => (B.b b hb).2.1) hcs h.1⟩
/-- what is found by the batches of the lacking kind j -/
def Ent (bs : List (List Int)) (costs c : List Int) (e : Int × List Nat) : Prop := Cov bs c e.2 ∧ e.1 = costRun bs costs e.2 ∧ (e.2.length : Int) ≤ c.sum
def Found (bs : List (List Int)) (costs c : List Int) (j n : Nat) (fs : List (Int × List Nat)) : Prop :=
  (∀ e ∈ fs, Ent bs costs c e) ∧ ∀ at_ : Nat, at_ < n → at_ < bs.length → 0 < g0 (bat bs at_) j → ∀ run', Cov bs (lackC c (bat bs at_)) run' → ∃ e ∈ fs, e.1 ≤ dot (bat bs at_) costs + costRun bs costs run'
theorem found_skip {j n : Nat} {fs : List (Int × List Nat)} (h : Found bs costs c j n fs) (hs : n < bs.length → 0 < g0 (bat bs n) j → ∀ run', ¬ Cov bs (lackC c (bat bs n)) run') : Found bs costs c j (n + 1) fs :=
  ⟨h.1, fun at_ h1 h2 h3 run' h4 => by
    by_cases e : at_ = n
    · subst e; exact absurd h4 (hs h2 h3 run')
    · exact h.2 at_ (by omega) h2 h3 run' h4⟩
theorem found_add (B : BatOk k bs) (hc : c.length = k) (hn : ∀ x ∈ c, 0 ≤ x) {j n : Nat} {fs : List (Int × List Nat)} (h : Found bs costs c j n fs) (hj : 0 < g0 c j) (h1 : n < bs.length) (h2 : 0 < g0 (bat bs n) j) {m : Int} {run : List Nat} (r : CovOK bs costs (lackC c (bat bs n)) (some (m, run))) :
    Found bs costs c j (n + 1) (fs ++ [(dot (bat bs n) costs + m, n :: run)]) := by
  obtain ⟨r1, r2, r3, r4⟩ := r
  have hb := B.b _ (bat_mem h1)
  refine ⟨fun e he => ?_, fun at_ q1 q2 q3 run' q4 => ?_⟩
  · rcases List.mem_append.mp he with he | he
    · exact h.1 e he
    · have he := List.mem_singleton.mp he
      subst he
      refine ⟨cov_add B hc h1 r1, by rw [cost_cons, r2], ?_⟩
      have := lack_lt j (by rw [hc, hb.1]) hn hb.2.1 hj h2
      show (((n :: run).length : Nat) : Int) ≤ _
      rw [List.length_cons]
      omega
  · by_cases e : at_ = n
    · subst e
      exact ⟨_, List.mem_append_right _ List.mem_cons_self, Int.add_le_add_left (r4 run' q4) _⟩
    · obtain ⟨e2, he2, q⟩ := h.2 at_ (by omega) q2 q3 run' q4
      exact ⟨e2, List.mem_append_left _ he2, q⟩
theorem found_none (B : BatOk k bs) (hc : c.length = k) {j : Nat} (hj : 0 < g0 c j) (h : Found bs costs c j bs.length []) : CovOK bs costs c none := fun run hr => by
  obtain ⟨at_, l1, l2, _, h1, h2, h3⟩ := cov_has B hc hr hj
  obtain ⟨e, he, _⟩ := h.2 at_ h1 h1 h2 _ h3
  simp at he
theorem found_some (B : BatOk k bs) (hc : c.length = k) {j : Nat} (hj : 0 < g0 c j) {fs : List (Int × List Nat)} (h : Found bs costs c j bs.length fs) {e : Int × List Nat} (he : e ∈ fs) (hm : ∀ e' ∈ fs, e.1 ≤ e'.1) : CovOK bs costs c (some e) := by
  obtain ⟨e1, e2, e3⟩ := h.1 e he
  refine ⟨e1, e2, e3, fun run hr => ?_⟩
  obtain ⟨at_, l1, l2, er, h1, h2, h3⟩ := cov_has B hc hr hj
  obtain ⟨e', he', q⟩ := h.2 at_ h1 h1 h2 _ h3
  have := hm e' he'
  rw [er, cost_split]
  omega
/-- two answers agree in the cost -/
theorem covOK_cost {r r' : Option (Int × List Nat)} (h : CovOK bs costs c r) (h' : CovOK bs costs c r') : r.map (·.1) = r'.map (·.1) := by
  cases r with
  | none =>
    cases r' with
    | none => rfl
    | some e => exact absurd h'.1 (h e.2)
  | some e =>
    cases r' with
    | none => exact absurd h.1 (h' e.2)
    | some e' =>
      obtain ⟨a1, a2, a3, a4⟩ := h
      obtain ⟨b1, b2, b3, b4⟩ := h'
      have q1 := a4 _ b1
      have q2 := b4 _ a1
      have : e.1 = e'.1 := by omega
      simp [this]
end
end DL

set_option Elab.async false
set_option linter.all false
set_option maxRecDepth 100000
set_option maxHeartbeats 4000000
/-! WK3: covering -/
namespace DL
open PySem PySem.Spec PyProof.Rows L2
/-- a name: what it holds is told first -/
theorem wd_nm {z : En} {X : Cx} {Γ : Env'} {O : OHp} {Φ : Dat → OHp → Prop} {pos : Pos} (i : Nat) {x : Str} {d : Dat} (hΓ : Γ[i]? = some (some d)) (h : Φ d O) (hN : X.N[i]? = some x := by rfl) (hv : Vis X.env.scope x := by first | exact Or.inl rfl | exact Or.inr (Or.inl rfl) | exact Or.inr (Or.inr rfl))
    (hd : (x == ("__debug__" : Str)) = false := by decide) (hcd : (x == ("__classdict__" : Str)) = false := by decide) : WD z X (.Name x pos) Γ O Φ := wd_name i h hN hΓ hv hd hcd
abbrev sCovering : Stmt := topS 27
theorem scCovering : FnScope ["book", "crowd", "costs", "known", "kinds", "found", "at", "batch", "rest", "kind", "many"] ["book", "crowd", "costs", "known"] (defScope sCovering) := C8.fnScope_by (by decide +kernel)
structure BookOk (k : Nat) (bs : List (List Int)) : Prop extends BatOk k bs where
  k1 : 1 ≤ k
  k3 : k ≤ 3
  n : bs.length ≤ 20
  hi : ∀ b ∈ bs, ∀ x ∈ b, x ≤ 100
structure CostOk (k : Nat) (costs : List Int) : Prop where
  l : costs.length = k
  r : ∀ x ∈ costs, 1 ≤ x ∧ x ≤ 1000
def covD : Option (Int × List Nat) → Dat
  | none => N
  | some e => .tup [I e.1, runD e.2]
def entD (e : Int × List Nat) : Dat := .tup [I e.1, runD e.2]
/-! ### the least of what is found -/
theorem toP_run (run : List Nat) : toP (runD run) = .tuple (run.map fun (i : Nat) => PyData.int (i : Int)) := by
  have : ∀ run : List Nat, toPs (run.map fun (i : Nat) => I (i : Int)) = run.map fun (i : Nat) => PyData.int (i : Int) := by
    intro run
    induction run with
    | nil => simp [toPs]
    | cons i run ih => simp [toPs, toP, ih]
  show toP (.tup _) = _
  simp only [toP, this]
theorem toP_ent (e : Int × List Nat) : toP (entD e) = .tuple [.int e.1, .tuple (e.2.map fun (i : Nat) => PyData.int (i : Int))] := by
  show toP (.tup [I e.1, runD e.2]) = _
  simp only [toP, toPs, toP_run]
theorem map_run (run : List Nat) : (run.map fun (i : Nat) => PyData.int (i : Int)) = (run.map fun (i : Nat) => (i : Int)).map .int := by rw [List.map_map]; rfl
theorem alike_runs (a b : List Nat) : PySem.W.alike (.tuple (a.map fun (i : Nat) => PyData.int (i : Int))) (.tuple (b.map fun (i : Nat) => PyData.int (i : Int))) = true := by
  rw [map_run, map_run, PySem.W.alike]
  exact PySem.W.alike_ints _ _
theorem alike_ent (e e' : Int × List Nat) : PySem.W.alike (toP (entD e)) (toP (entD e')) = true := by
  rw [toP_ent, toP_ent, PySem.W.alike]
  have h1 : PySem.W.alike (.int e.1) (.int e'.1) = true := by simp [PySem.W.alike]
  have h2 := alike_runs e.2 e'.2
  simp [PySem.W.alikeAll, h1, h2]
theorem lt_ent (e e' : Int × List Nat) : (PySem.W.dataLt (toP (entD e)) (toP (entD e')) = true → e.1 ≤ e'.1) ∧ (PySem.W.dataLt (toP (entD e)) (toP (entD e')) = false → e'.1 ≤ e.1) := by
  rw [toP_ent, toP_ent, PySem.W.dataLt_pair (by simp [PySem.W.alike]) (alike_runs _ _), PySem.W.dataLt_int]
  have : PyData.eqv (.int e.1) (.int e'.1) = decide (e.1 = e'.1) := by
    by_cases h : e.1 = e'.1 <;> simp [PyData.eqv, h]
  rw [this]
  by_cases h : e.1 = e'.1
  · simp [h]
  · simp [h]; omega
theorem min_ent : ∀ (es : List (Int × List Nat)) (e0 : Int × List Nat), ∃ e ∈ e0 :: es, PySem.W.minD (toP (entD e0)) (toPs (es.map entD)) = toP (entD e) ∧ ∀ e' ∈ e0 :: es, e.1 ≤ e'.1
  | [], e0 => ⟨e0, List.mem_cons_self, by simp [toPs, PySem.W.minD], fun e' he' => by simp at he'; rw [he']; exact Int.le_refl _⟩
  | e1 :: es, e0 => by
    have step : PySem.W.minD (toP (entD e0)) (toPs ((e1 :: es).map entD)) = PySem.W.minD (if PySem.W.dataLt (toP (entD e1)) (toP (entD e0)) then toP (entD e1) else toP (entD e0)) (toPs (es.map entD)) := by
      rw [List.map_cons]; simp only [toPs]; rfl
    have lt := lt_ent e1 e0
    by_cases h : PySem.W.dataLt (toP (entD e1)) (toP (entD e0)) = true
    · rw [if_pos h] at step
      obtain ⟨e, he, q1, q2⟩ := min_ent es e1
      refine ⟨e, List.mem_cons_of_mem _ he, by rw [step, q1], fun e' he' => ?_⟩
      rcases List.mem_cons.mp he' with z | z
      · rw [z]; exact Int.le_trans (q2 e1 List.mem_cons_self) (lt.1 h)
      · exact q2 e' z
    · rw [if_neg h] at step
      obtain ⟨e, he, q1, q2⟩ := min_ent es e0
      refine ⟨e, ?_, by rw [step, q1], fun e' he' => ?_⟩
      · rcases List.mem_cons.mp he with z | z
        · rw [z]; exact List.mem_cons_self
        · exact List.mem_cons_of_mem _ (List.mem_cons_of_mem _ z)
      · rcases List.mem_cons.mp he' with z | z
        · rw [z]; exact q2 e0 List.mem_cons_self
        · rcases List.mem_cons.mp z with z | z
          · rw [z]; exact Int.le_trans (q2 e0 List.mem_cons_self) (lt.2 (by simpa using h))
          · exact q2 e' (List.mem_cons_of_mem _ z)
theorem isPs_ents (fs : List (Int × List Nat)) : isPs 59 (fs.map entD) = true := by
  induction fs with
  | nil => simp [isPs]
  | cons e fs ih =>
    have h : ∀ (n : Nat) (run : List Nat), isPs n (run.map fun (i : Nat) => I (i : Int)) = true := by
      intro n run
      induction run with
      | nil => simp [isPs]
      | cons i run ih => simp [isPs, isP, ih]
    have h2 : isP 59 (entD e) = true := by
      show isP 59 (.tup [I e.1, runD e.2]) = true
      simp only [isP, isPs, Bool.true_and, Bool.and_true]
      show isP 58 (.tup _) = true
      simp only [isP, h]
    rw [List.map_cons]
    simp only [isPs, h2, ih, Bool.and_true]
theorem alikeAll_ents (fs : List (Int × List Nat)) : PySem.W.AlikeAll (toPs (fs.map entD)) := by
  have mem : ∀ x ∈ toPs (fs.map entD), ∃ e, x = toP (entD e) := by
    induction fs with
    | nil => intro x hx; simp [toPs] at hx
    | cons e fs ih =>
      intro x hx
      rw [List.map_cons] at hx
      simp only [toPs] at hx
      rcases List.mem_cons.mp hx with z | z
      · exact ⟨e, z⟩
      · exact ih x z
  refine ⟨fun x hx y hy => ?_, fun x hx => ?_⟩
  · obtain ⟨e, rfl⟩ := mem x hx
    obtain ⟨e', rfl⟩ := mem y hy
    exact alike_ent e e'
  · obtain ⟨e, rfl⟩ := mem x hx
    rw [toP_ent]
    exact fun z => by cases z
/-! ### what is known -/
structure Known (k : Nat) (bs : List (List Int)) (costs : List Int) (kvs : DD) : Prop where
  v : ∀ kv ∈ kvs, ∃ r, kv.2 = covD r ∧ CovOK bs costs kv.1 r
  b : ∀ kv ∈ kvs, kv.1.length = k ∧ ∀ x ∈ kv.1, 0 ≤ x ∧ x < 13
  nd : (kvs.map (·.1)).Nodup
theorem valD_mem {kvs : DD} {c : List Int} {d : Dat} (h : valD kvs c = some d) : (c, d) ∈ kvs := by
  unfold valD at h
  cases e : kvs.find? fun kv => decide (kv.1 = c) with
  | none => rw [e] at h; cases h
  | some kv =>
    rw [e] at h
    have h1 := List.find?_some e
    have h2 := List.mem_of_find?_eq_some e
    have h1 : kv.1 = c := by simpa using h1
    have h3 : kv.2 = d := Option.some.inj h
    rw [← h1, ← h3]
    exact h2
theorem valD_none {kvs : DD} {c : List Int} (h : valD kvs c = none) : c ∉ kvs.map (·.1) := fun hm => by
  obtain ⟨kv, h1, h2⟩ := List.mem_map.mp hm
  unfold valD at h
  rw [Option.map_eq_none_iff, List.find?_eq_none] at h
  exact h kv h1 (by simp [h2])
theorem putD_new {kvs : DD} {c : List Int} {d : Dat} (h : c ∉ kvs.map (·.1)) : putD kvs c d = kvs ++ [(c, d)] := by
  unfold putD
  rw [if_neg]
  intro z
  obtain ⟨kv, h1, h2⟩ := List.any_eq_true.mp z
  exact h (List.mem_map.mpr ⟨kv, h1, by simpa using h2⟩)
theorem valD_app {kvs : DD} {c : List Int} {d : Dat} (h : c ∉ kvs.map (·.1)) : valD (kvs ++ [(c, d)]) c = some d := by
  unfold valD
  rw [List.find?_append]
  have : kvs.find? (fun kv => decide (kv.1 = c)) = none := List.find?_eq_none.mpr fun kv hk z => h (List.mem_map.mpr ⟨kv, hk, by simpa using z⟩)
  rw [this]; simp
theorem Known.add {k : Nat} {bs : List (List Int)} {costs : List Int} {kvs : DD} (h : Known k bs costs kvs) {c : List Int} {r : Option (Int × List Nat)} (hn : c ∉ kvs.map (·.1)) (hl : c.length = k) (hx : ∀ x ∈ c, 0 ≤ x ∧ x < 13) (hr : CovOK bs costs c r) : Known k bs costs (kvs ++ [(c, covD r)]) := by
  refine ⟨fun kv hk => ?_, fun kv hk => ?_, ?_⟩
  · rcases List.mem_append.mp hk with z | z
    · exact h.v kv z
    · have z := List.mem_singleton.mp z; subst z; exact ⟨r, rfl, hr⟩
  · rcases List.mem_append.mp hk with z | z
    · exact h.b kv z
    · have z := List.mem_singleton.mp z; subst z; exact ⟨hl, hx⟩
  · rw [List.map_append, List.nodup_append]
    exact ⟨h.nd, by simp, fun x hx y hy e => by
      have hy : y = c := by simpa using hy
      subst e; rw [hy] at hx; exact hn hx⟩
/-- so many crowds there are -/
theorem nodup_lt : ∀ (n : Nat) (l : List Nat), l.Nodup → (∀ x ∈ l, x < n) → l.length ≤ n
  | 0, l, _, h => by
    cases l with
    | nil => exact Nat.le_refl 0
    | cons x l => exact absurd (h x List.mem_cons_self) (by omega)
  | n + 1, l, hd, h => by
    by_cases hn : n ∈ l
    · have h1 := nodup_lt n (l.erase n) (hd.erase n) fun x hx => by
        have h2 := (List.Nodup.mem_erase_iff hd).mp hx
        have := h x h2.2
        have := h2.1
        omega
      have := List.length_erase_of_mem hn
      have : 0 < l.length := List.length_pos_of_mem hn
      omega
    · have h1 := nodup_lt n l hd fun x hx => by
        have := h x hx
        have : x ≠ n := fun e => hn (e ▸ hx)
        omega
      omega
def enc (M : Nat) : List Int → Nat
  | [] => 0
  | x :: c => x.toNat + M * enc M c
theorem enc_lt (M : Nat) : ∀ (k : Nat) (c : List Int), c.length = k → (∀ x ∈ c, 0 ≤ x ∧ x < (M : Int)) → enc M c < M ^ k
  | 0, [], _, _ => by simp [enc]
  | 0, _ :: _, h, _ => by simp at h
  | k + 1, [], h, _ => by simp at h
  | k + 1, x :: c, h, hx => by
    have ih := enc_lt M k c (by simpa using h) fun y hy => hx y (List.mem_cons_of_mem _ hy)
    have h1 := hx x List.mem_cons_self
    show x.toNat + M * enc M c < M ^ (k + 1)
    have h2 : x.toNat < M := by omega
    have h3 : M * (enc M c + 1) ≤ M * M ^ k := Nat.mul_le_mul_left _ ih
    rw [Nat.pow_succ, Nat.mul_comm (M ^ k) M]
    rw [Nat.mul_add, Nat.mul_one] at h3
    omega
theorem enc_inj (M : Nat) : ∀ (c c' : List Int), c.length = c'.length → (∀ x ∈ c, 0 ≤ x ∧ x < (M : Int)) → (∀ x ∈ c', 0 ≤ x ∧ x < (M : Int)) → enc M c = enc M c' → c = c'
  | [], [], _, _, _, _ => rfl
  | [], _ :: _, h, _, _, _ => by simp at h
  | _ :: _, [], h, _, _, _ => by simp at h
  | x :: c, y :: c', h, h1, h2, e => by
    have a1 := h1 x List.mem_cons_self
    have a2 := h2 y List.mem_cons_self
    have e : x.toNat + M * enc M c = y.toNat + M * enc M c' := e
    have hM : 0 < M := by omega
    have q1 : (x.toNat + M * enc M c) % M = x.toNat := by rw [Nat.add_mul_mod_self_left, Nat.mod_eq_of_lt (by omega)]
    have q2 : (y.toNat + M * enc M c') % M = y.toNat := by rw [Nat.add_mul_mod_self_left, Nat.mod_eq_of_lt (by omega)]
    rw [e, q2] at q1
    have q3 : M * enc M c = M * enc M c' := by omega
    have q4 := Nat.eq_of_mul_eq_mul_left hM q3
    rw [enc_inj M c c' (by simpa using h) (fun z hz => h1 z (List.mem_cons_of_mem _ hz)) (fun z hz => h2 z (List.mem_cons_of_mem _ hz)) q4]
    congr 1
    omega
theorem box_len {M k : Nat} {l : List (List Int)} (hd : l.Nodup) (hb : ∀ c ∈ l, c.length = k ∧ ∀ x ∈ c, 0 ≤ x ∧ x < (M : Int)) : l.length ≤ M ^ k := by
  have h1 : (l.map (enc M)).Nodup := by
    induction l with
    | nil => simp
    | cons c l ih =>
      obtain ⟨n1, n2⟩ := List.nodup_cons.mp hd
      rw [List.map_cons, List.nodup_cons]
      refine ⟨fun z => ?_, ih n2 fun c hc => hb c (List.mem_cons_of_mem _ hc)⟩
      obtain ⟨c', hc', e⟩ := List.mem_map.mp z
      have a1 := hb c List.mem_cons_self
      have a2 := hb c' (List.mem_cons_of_mem _ hc')
      have := enc_inj M c' c (by rw [a1.1, a2.1]) a2.2 a1.2 e
      rw [this] at hc'
      exact n1 hc'
  have := nodup_lt (M ^ k) (l.map (enc M)) h1 fun x hx => by
    obtain ⟨c, hc, rfl⟩ := List.mem_map.mp hx
    exact enc_lt M k c (hb c hc).1 (hb c hc).2
  rwa [List.length_map] at this
theorem Known.len {k : Nat} {bs : List (List Int)} {costs : List Int} {kvs : DD} (h : Known k bs costs kvs) (hk : k ≤ 3) : kvs.length < 100000 := by
  have := box_len (M := 13) (k := k) h.nd fun c hc => by
    obtain ⟨kv, hkv, rfl⟩ := List.mem_map.mp hc
    exact h.b kv hkv
  rw [List.length_map] at this
  have h2 : 13 ^ k ≤ 13 ^ 3 := Nat.pow_le_pow_right (by decide) hk
  omega
theorem putD_old {kvs : DD} {c : List Int} {d : Dat} (h : c ∈ kvs.map (·.1)) : putD kvs c d = kvs.map fun kv => if kv.1 = c then (kv.1, d) else kv := by
  unfold putD
  rw [if_pos]
  obtain ⟨kv, h1, h2⟩ := List.mem_map.mp h
  exact List.any_eq_true.mpr ⟨kv, h1, by simpa using h2⟩
theorem valD_put (kvs : DD) (c : List Int) (d : Dat) : valD (putD kvs c d) c = some d := by
  by_cases h : c ∈ kvs.map (·.1)
  · rw [putD_old h]
    induction kvs with
    | nil => simp at h
    | cons kv kvs ih =>
      rw [List.map_cons]
      by_cases e : kv.1 = c
      · simp [valD, List.find?_cons, e]
      · have h' : c ∈ kvs.map (·.1) := by
          rw [List.map_cons] at h
          rcases List.mem_cons.mp h with z | z
          · exact absurd z.symm e
          · exact z
        have := ih h'
        simp only [valD, if_neg e, List.find?_cons, decide_eq_false e] at this ⊢
        exact this
  · rw [putD_new h]; exact valD_app h
theorem valD_put_ne (kvs : DD) {c c' : List Int} (d : Dat) (hne : c' ≠ c) : valD (putD kvs c d) c' = valD kvs c' := by
  by_cases h : c ∈ kvs.map (·.1)
  · rw [putD_old h]
    clear h
    induction kvs with
    | nil => rfl
    | cons kv kvs ih =>
      rw [List.map_cons]
      by_cases e : kv.1 = c
      · have e2 : ¬ kv.1 = c' := fun z => hne (by rw [← z, e])
        simp only [valD, if_pos e, List.find?_cons, decide_eq_false e2] at ih ⊢
        exact ih
      · simp only [if_neg e]
        by_cases e2 : kv.1 = c'
        · simp [valD, List.find?_cons, e2]
        · simp only [valD, List.find?_cons, decide_eq_false e2] at ih ⊢
          exact ih
  · rw [putD_new h]
    unfold valD
    rw [List.find?_append]
    have : [(c, d)].find? (fun kv => decide (kv.1 = c')) = none := by
      rw [List.find?_cons]
      have : decide (c = c') = false := decide_eq_false fun z => hne z.symm
      simp [this]
    rw [this]; simp
theorem putD_keys {kvs : DD} {c : List Int} {d : Dat} : (putD kvs c d).map (·.1) = if c ∈ kvs.map (·.1) then kvs.map (·.1) else kvs.map (·.1) ++ [c] := by
  by_cases h : c ∈ kvs.map (·.1)
  · rw [putD_old h, if_pos h, List.map_map]
    apply List.map_congr_left
    intro kv _
    show (if kv.1 = c then (kv.1, d) else kv).1 = kv.1
    split <;> rfl
  · rw [putD_new h, if_neg h, List.map_append]; rfl
theorem putD_mem {kvs : DD} {c : List Int} {d : Dat} {kv : List Int × Dat} (h : kv ∈ putD kvs c d) : kv = (c, d) ∨ kv ∈ kvs := by
  by_cases hc : c ∈ kvs.map (·.1)
  · rw [putD_old hc] at h
    obtain ⟨kv', h1, rfl⟩ := List.mem_map.mp h
    by_cases e : kv'.1 = c
    · rw [if_pos e, e]; exact .inl rfl
    · rw [if_neg e]; exact .inr h1
  · rw [putD_new hc] at h
    rcases List.mem_append.mp h with z | z
    · exact .inr z
    · exact .inl (List.mem_singleton.mp z)
theorem putD_nodup {kvs : DD} {c : List Int} {d : Dat} (h : (kvs.map (·.1)).Nodup) : ((putD kvs c d).map (·.1)).Nodup := by
  rw [putD_keys]
  split
  · exact h
  · rename_i hc
    rw [List.nodup_append]
    exact ⟨h, by simp, fun x hx y hy e => by
      have hy : y = c := by simpa using hy
      subst e; rw [hy] at hx; exact hc hx⟩
theorem Known.put {k : Nat} {bs : List (List Int)} {costs : List Int} {kvs : DD} (h : Known k bs costs kvs) {c : List Int} {r : Option (Int × List Nat)} (hl : c.length = k) (hx : ∀ x ∈ c, 0 ≤ x ∧ x < 13) (hr : CovOK bs costs c r) : Known k bs costs (putD kvs c (covD r)) :=
  ⟨fun kv hk => by
    rcases putD_mem hk with e | e
    · subst e; exact ⟨r, rfl, hr⟩
    · exact h.v kv e, fun kv hk => by
    rcases putD_mem hk with e | e
    · subst e; exact ⟨hl, hx⟩
    · exact h.b kv e, putD_nodup h.nd⟩
def spCovering (C : Addr) (n : Nat) : DSp := fun ds O Φ _ => ∃ k bs costs c D kvs, ds = [bookD C k bs, tI c, tI costs, R D] ∧ O D = some (oD kvs) ∧ BookOk k bs ∧ CostOk k costs ∧ Known k bs costs kvs ∧ c.length = k ∧ (∀ x ∈ c, 0 ≤ x ∧ x < 13) ∧ c.sum ≤ n ∧
  ∀ r kvs', CovOK bs costs c r → Known k bs costs kvs' → Φ (covD r) (put O D (oD kvs'))
/-- the kinds that lack -/
def posD (c : List Int) (i : Nat) : Option Dat := (c[i]?).bind fun x => if 0 < x then some (I (i : Int)) else none
theorem pos_cases (c : List Int) : ((List.range c.length).filterMap (posD c) = [] ∧ ∀ j, g0 c j ≤ 0) ∨ ∃ j r, (List.range c.length).filterMap (posD c) = I (j : Nat) :: r ∧ j < c.length ∧ 0 < g0 c j := by
  cases e : (List.range c.length).filterMap (posD c) with
  | nil =>
    refine .inl ⟨rfl, fun j => ?_⟩
    by_cases hj : j < c.length
    · rw [List.filterMap_eq_nil_iff] at e
      have := e j (List.mem_range.mpr hj)
      unfold posD at this
      rw [List.getElem?_eq_getElem hj] at this
      simp only [g0, List.getD_eq_getElem?_getD, List.getElem?_eq_getElem hj, Option.getD_some]
      by_cases h : 0 < c[j]
      · simp [h] at this
      · omega
    · rw [g0_out (by omega)]; exact Int.le_refl 0
  | cons d r =>
    have hd : d ∈ (List.range c.length).filterMap (posD c) := by rw [e]; exact List.mem_cons_self
    obtain ⟨j, hj, q⟩ := List.mem_filterMap.mp hd
    have hj := List.mem_range.mp hj
    unfold posD at q
    rw [List.getElem?_eq_getElem hj] at q
    by_cases h : 0 < c[j]
    · simp [h] at q
      refine .inr ⟨j, r, by rw [← q], hj, ?_⟩
      simp only [g0, List.getD_eq_getElem?_getD, List.getElem?_eq_getElem hj, Option.getD_some]
      exact h
    · simp [h] at q
theorem lack_bd {a b : List Int} (h : a.length = b.length) (hb : ∀ x ∈ b, 0 ≤ x) {M : Int} (ha : ∀ x ∈ a, 0 ≤ x ∧ x < M) : ∀ x ∈ lackC a b, 0 ≤ x ∧ x < M := by
  intro x hx
  refine ⟨lack_nn x hx, ?_⟩
  unfold lackC at hx
  obtain ⟨i, hi⟩ := List.getElem?_of_mem hx
  rw [List.getElem?_zipWith] at hi
  split at hi
  · rename_i u v e1 e2
    have := Option.some.inj hi
    have h1 := ha u (List.mem_of_getElem? e1)
    have h2 := hb v (List.mem_of_getElem? e2)
    rw [← this]
    split <;> omega
  · cases hi
section
variable {P : Program} {w : World} {K : PySem.W.Frag} {mg : Str → Option Value} {base : Heap} {T : List (Addr × Str)} {C : Addr}
theorem cCovBody (t : Tx K mg) (bk : Bk K C) (i0 : Cal P w K mg base T CX0 "lacking" 1 ["crowd", "batch"] spLack) (i1 : Cal P w K mg base T CX0 "cost_of" 1 ["crowd", "costs"] spCost) (d : Df K mg "covering" sCovering ["book", "crowd", "costs", "known"]) (n : Nat)
    (rec_ : ∀ n', n = n' + 1 → Cal P w K mg base T CX0 "covering" (n' + 2) ["book", "crowd", "costs", "known"] (spCovering C n')) : Cal P w K mg base T CX0 "covering" (n + 2) ["book", "crowd", "costs", "known"] (spCovering C n) := by
  refine calD d scCovering (fun ds O Φ Ψ ⟨k, bs, costs, c, D, kvs, h, _⟩ => by rw [h]; rfl) fun f cdv A outer s H E H0 O ds Φ Ψ hr ⟨k, bs, costs, c, D, kvs, e, hD, BO, CO, KN, hc, hx, hsum, φ⟩ => ?_
  subst e
  have hu : (A.deeper (envOfC "covering" (defScope sCovering) s.heap.objs.size f cdv)).units + 64 < cLine := hr.units
  have hu1 : (A.deeper (envOfC "covering" (defScope sCovering) s.heap.objs.size f cdv)).units + 1 < cLine := hu_of hr
  have hx0 := hx
  have hcn : ∀ x ∈ c, 0 ≤ x := fun x q => (hx x q).1
  have hcostn : ∀ x ∈ costs, 0 ≤ x := fun x q => by have := CO.r x q; omega
  -- the end: known[crowd]
  have fin : ∀ (O' : OHp) (kvs' : DD) (r : Option (Int × List Nat)) (y4 y5 y6 y7 y8 y9 y10 : Option Dat), (∀ a od, put O D (oD kvs') a = some od → O' a = some od) → Known k bs costs kvs' → valD kvs' c = some (covD r) → CovOK bs costs c r →
      WSs ⟨T, H0, O, H⟩ (cxOf CX0 P w K mg base ["book", "crowd", "costs", "known", "kinds", "found", "at", "batch", "rest", "kind", "many"] "covering" (defScope sCovering) f cdv A outer s H E).nox [(defBody sCovering).getD 1 (.Pass ⟨0, 0, 0, 0⟩)]
        [some (bookD C k bs), some (tI c), some (tI costs), some (R D), y4, y5, y6, y7, y8, y9, y10] O' { nx := fun _ O' => Ret Φ (.v .non) O', rt := Ret Φ } := fun O' kvs' r y4 y5 y6 y7 y8 y9 y10 hO hK hv hC =>
    wss_one (ws_ret (wd_dget hu1 (wd_name 3 (wd_name 1 ⟨D, kvs', c, covD r, rfl, rfl, hO D _ put_same, hv, .inl ⟨put O D (oD kvs'), hO, φ r kvs' hC hK⟩⟩))))
  refine wss_cons (ws_if (wt_dnotin hu1 (wd_name 1 (wd_name 3 ⟨D, kvs, c, rfl, rfl, hD, fun q => ?_, fun q => ?_⟩))))
  · -- it is not known
    have hnone : valD kvs c = none := by
      cases h : valD kvs c with
      | none => rfl
      | some d => rw [h] at q; cases q
    let J : Nat → List (Int × List Nat) → Prop := fun i fs => ((List.range c.length).filterMap (posD c) = [] ∧ (∀ j, g0 c j ≤ 0) ∧ fs = [(0, [])]) ∨ ∃ (j : Nat) (r : List Dat), (List.range c.length).filterMap (posD c) = I (j : Int) :: r ∧ j < c.length ∧ 0 < g0 c j ∧ Found bs costs c j i fs
    have hDp : ∀ p, O p = none → D ≠ p := fun p hp z => by rw [z, hp] at hD; cases hD
    -- kinds
    refine wss_cons (ws_setLc 4 [("kind", 9), ("many", 10)] (gTup K 2 (gCons (gName 9) (gCons (gName 10) gNil))) (gw_tup (by decide) (by decide)) scCovering.nd (blkOk_by (N := ["book", "crowd", "costs", "known", "kinds", "found", "at", "batch", "rest", "kind", "many"]) (sc := defScope sCovering) (by decide +kernel)) (fun s H C cl fp => pg2 9 10 scCovering.nd) rfl (wi_enumT t.enumerate (wd_name 1 ⟨_, rfl, ?_⟩)))
    refine lcw_filter (posD c) (by rw [List.length_map, hc]; have := BO.k3; omega) trivial (fun i d hi hy => ?_) (.inl ?_)
    · obtain ⟨x, h1, rfl⟩ := hy
      obtain ⟨n1, h2, rfl⟩ := ints_get h1
      refine rg2 ⟨rfl, fun s0 H1 C cl fp => wts_one (wt_cmp op_gt (wd_name 10 (wd_int (rr_I0 ⟨_, rfl, rfl, fun hb s0 H1 C cl fp => wd_name 9 ⟨?_, rfl⟩, fun hb => ?_⟩))))⟩
      · unfold posD; rw [h2]; simp [of_decide_eq_true hb]
      · unfold posD; rw [h2]; simp [of_decide_eq_false hb]
    rw [List.length_map]
    -- found
    refine wss_cons (ws_set 5 (rd_imp (Φ' := fun d O1 => ∃ p fs, d = R p ∧ O p = none ∧ O1 = put O p (.lst (fs.map entD)) ∧ fs.length ≤ 1 ∧ J 0 fs) (wd_ifExp (wt_cmp op_gt (wd_len t.len (wd_name 4 ⟨_, .inl .lst, wd_int (rr_I0 ⟨_, rfl, fun q => wd_lst (wa_nil ⟨by simp, .inr fun p hp => ?_⟩), fun q => wd_lst (wa_1 (wd_tup (wa_two (wd_int (wd_tup (wa_nil ⟨by simp, by simp, by simp, .inr fun p hp => ?_⟩))))))⟩)⟩)))) ?_) scCovering.nd)
    · refine ⟨p, [], rfl, hp, rfl, by simp, ?_⟩
      rcases pos_cases c with ⟨h1, h2⟩ | ⟨j, r, h1, h2, h3⟩
      · rw [h1] at q; simp at q
      · exact .inr ⟨j, r, h1, h2, h3, fun e he => by simp at he, fun at_ h => by omega⟩
    · refine ⟨p, [(0, [])], rfl, hp, rfl, by simp, ?_⟩
      rcases pos_cases c with ⟨h1, h2⟩ | ⟨j, r, h1, h2, h3⟩
      · exact .inl ⟨h1, h2, rfl⟩
      · rw [h1] at q
        have q := of_decide_eq_false q
        rw [List.length_cons] at q
        omega
    rintro d1 O1 ⟨p, fs0, rfl, hp, rfl, hf0, hJ0⟩
    have hDp := hDp p hp
    have hbl : ∀ {i : Nat} {b : List Int}, bs[i]? = some b → b.length = k ∧ (∀ x ∈ b, 0 ≤ x) ∧ ∀ x ∈ b, x ≤ 100 := fun h => ⟨(BO.b _ (List.mem_of_getElem? h)).1, (BO.b _ (List.mem_of_getElem? h)).2.1, BO.hi _ (List.mem_of_getElem? h)⟩
    have hk3 := BO.k3
    refine wss_cons (ws_for PassesOwn.never (pg2 6 7 scCovering.nd) (wi_enumT t.enumerate (wd_fld (wd_name 0 ⟨C, _, _, _, rfl, bk.cls, bk.n2, rfl, _, rfl, fun i Γ' O' => ∃ fs kvs1 y6 y7 y8, Γ' = [some (bookD C k bs), some (tI c), some (tI costs), some (R D), some (.lst ((List.range c.length).filterMap (posD c))), some (R p), y6, y7, y8, none, none] ∧
      O' D = some (oD kvs1) ∧ O' p = some (.lst (fs.map entD)) ∧ (∀ b, b ≠ D → b ≠ p → O' b = O b) ∧ Known k bs costs kvs1 ∧ fs.length ≤ i + 1 ∧ J i fs, ⟨fs0, kvs, none, none, none, rfl, by rw [put_ne hDp]; exact hD, put_same, fun b h1 h2 => put_ne h2, KN, by omega, hJ0⟩, fun _ _ _ _ => trivial, ?_, ?_⟩))))
    · rintro i d2 Γ' O' hii ⟨fs, kvs1, y6, y7, y8, rfl, hD1, hp1, ho, K1, hl, hJ⟩ ⟨x, hx, rfl⟩
      obtain ⟨b, hb, rfl⟩ := tIs_get hx
      have hi : i < bs.length := (List.getElem?_eq_some_iff.mp hb).1
      obtain ⟨b1, b2, b3⟩ := hbl hb
      have hbat : bat bs i = b := bat_get hb
      refine rg2 (wss_one (ws_if (wt_ww (ww_and (wt_cmp op_gt (wd_len t.len (wd_name 4 ⟨_, .inl .lst, wd_int (rr_I0 ⟨_, rfl, fun q => ?_, fun q => ww_and1 ?_⟩)⟩)))))))
      · refine ⟨(fun z => nomatch z), fun _ => wss_nil ⟨fs, kvs1, _, _, _, rfl, hD1, hp1, ho, K1, by omega, ?_⟩⟩
        rcases hJ with hJ | ⟨j, r, h1, _⟩
        · exact .inl hJ
        · rw [h1] at q
          have q := of_decide_eq_false q
          rw [List.length_cons] at q
          omega
      · rcases hJ with ⟨h1, _⟩ | ⟨j, r, h1, h2, h3, h4⟩
        · rw [h1] at q; simp at q
        have bj : b[j]? = some (g0 b j) := by
          have hj : j < b.length := by omega
          simp [g0, List.getD_eq_getElem?_getD, List.getElem?_eq_getElem hj]
        refine wt_cmp op_gt (wd_ixT (wd_name 7 (wd_ixL (wd_nm 4 rfl (wd_int ⟨(List.range c.length).filterMap (posD c), 0, I (j : Int), .lst, rfl, by rw [h1]; exact atI_nat (j := 0) rfl, b.map I, (j : Int), I (g0 b j), rfl, rfl, atI_ofNat (mapI_get bj), wd_int (rr_I0 ⟨_, rfl, fun q2 => ?_, fun q2 => wss_nil ⟨fs, kvs1, _, _, _, rfl, hD1, hp1, ho, K1, by omega, .inr ⟨j, r, h1, h2, h3, found_skip h4 fun _ h6 => absurd h6 (by rw [hbat]; exact of_decide_eq_false q2)⟩⟩⟩)⟩)))))
        have q2 : 0 < g0 b j := of_decide_eq_true q2
        have hs1 : 0 < c.sum := Int.lt_of_lt_of_le h3 (g0_le_sum hcn j)
        obtain ⟨n', rfl⟩ : ∃ n', n = n' + 1 := ⟨n - 1, by omega⟩
        have hls := lack_lt j (a := c) (b := b) (by rw [hc, b1]) hcn b2 h3 q2
        refine wss_cons (ws_set 8 (wd_call (rec_ n' rfl) hr (wa_cons (wd_name 0 (wa_cons (wd_call i0 (hr.mono (by omega)) (wa_two (wd_name 1 (wd_name 7 ⟨c, b, rfl, by rw [hc, b1], by omega, fun y hy => ⟨b2 y hy, by have := b3 y hy; omega⟩, wa_two (wd_name 2 (wd_name 3 ⟨k, bs, costs, lackC c b, D, kvs1, rfl, hD1, BO, CO, K1, by rw [lack_len (by rw [hc, b1]), hc], lack_bd (by rw [hc, b1]) b2 hx0, by omega, fun r2 kvs2 hC2 hK2 => ?_⟩))⟩)))))))) scCovering.nd)
        have hp2 : (put O' D (oD kvs2)) p = some (.lst (fs.map entD)) := by rw [put_ne (Ne.symm hDp)]; exact hp1
        have hC2 : CovOK bs costs (lackC c (bat bs i)) r2 := by rw [hbat]; exact hC2
        refine wss_one (ws_if (wt_notN (wd_name (d := covD r2) 8 ⟨by cases r2 <;> rfl, fun q3 => ?_, fun q3 => ?_⟩)))
        · cases r2 with
          | none => cases q3
          | some e =>
            have el : (e.2.length : Int) ≤ c.sum := by
              have := hC2.2.2.1
              rw [hbat] at this
              omega
            have sl : c.sum ≤ 39 := by
              have : ∀ a : List Int, a.length ≤ 3 → (∀ x ∈ a, x < 13) → a.sum ≤ 39 := fun a h1 h2 => by
                match a, h1, h2 with
                | [], _, _ => simp
                | [x], _, h2 => have := h2 x (by simp); simp; omega
                | [x, y], _, h2 => have := h2 x (by simp); have := h2 y (by simp); simp; omega
                | [x, y, z], _, h2 => have := h2 x (by simp); have := h2 y (by simp); have := h2 z (by simp); simp; omega
                | _ :: _ :: _ :: _ :: _, h1, _ => simp at h1
              exact this c (by omega) fun x hx' => (hx0 x hx').2
            refine wss_one (ws_expr (wd_append (wd_nm 5 rfl ⟨p, rfl, ⟨_, hp2⟩, wd_tup (wa_two (wd_op op_add (wd_call i1 (hr.mono (by omega)) (wa_two (wd_nm 7 rfl (wd_nm 2 rfl ⟨b, costs, _, rfl, .inl rfl, by rw [b1, CO.l], by omega, fun y hy => ⟨by have := CO.r y hy; omega, by have := CO.r y hy; omega⟩, ?_⟩))))))⟩)))
            refine wd_ixT (wd_nm 8 rfl (wd_int ⟨_, 0, I e.1, rfl, rfl, atI_nat (j := 0) rfl, rr_I0 ?_⟩))
            refine wd_tup (wa_cons (wd_nm 6 rfl (wa_star (wd_ixT (wd_nm 8 rfl (wd_int ⟨_, 1, runD e.2, rfl, rfl, atI_nat (j := 1) rfl, _, rfl, wa_nil ⟨?_, by simp, fs.map entD, hp2, ?_, ?_⟩⟩))))))
            · simp; omega
            · rw [List.length_map]; have := BO.n; omega
            · refine ⟨fs ++ [(dot b costs + e.1, i :: e.2)], kvs2, _, _, _, rfl, by rw [put_ne hDp]; exact put_same, ?_, fun b' g1 g2 => by rw [put_ne g2, put_ne g1]; exact ho b' g1 g2, hK2, by simp; omega, .inr ⟨j, r, h1, h2, h3, ?_⟩⟩
              · rw [put_same, List.map_append]
                simp [entD, runD]
              · have := found_add BO.toBatOk hc hcn h4 h3 hi (by rw [hbat]; exact q2) (m := e.1) (run := e.2) hC2
                rw [hbat] at this
                exact this
        · cases r2 with
          | some e => cases q3
          | none => exact wss_nil ⟨fs, kvs2, _, _, _, rfl, put_same, hp2, fun b' g1 g2 => by rw [put_ne g1]; exact ho b' g1 g2, hK2, by omega, .inr ⟨j, r, h1, h2, h3, found_skip h4 fun _ _ => hC2⟩⟩
    · rintro Γ' O' ⟨fs, kvs1, y6, y7, y8, rfl, hD1, hp1, ho, K1, hl, hJ⟩
      rw [List.length_map] at hl hJ
      have hN : fs = [] → CovOK bs costs c none := fun e => by
        rcases hJ with ⟨_, _, h⟩ | ⟨j, r, h1, h2, h3, h4⟩
        · rw [e] at h; cases h
        · rw [e] at h4; exact found_none BO.toBatOk hc h3 h4
      have hS : ∀ e ∈ fs, (∀ e' ∈ fs, e.1 ≤ e'.1) → CovOK bs costs c (some e) := fun e he hm => by
        rcases hJ with ⟨_, hz, h⟩ | ⟨j, r, h1, h2, h3, h4⟩
        · rw [h] at he
          have he := List.mem_singleton.mp he
          rw [he]
          exact covOK_zero BO.toBatOk hcostn hcn hz
        · exact found_some BO.toBatOk hc h3 h4 he hm
      have last : ∀ r, CovOK bs costs c r → WSs ⟨T, H0, O, H⟩ (cxOf CX0 P w K mg base ["book", "crowd", "costs", "known", "kinds", "found", "at", "batch", "rest", "kind", "many"] "covering" (defScope sCovering) f cdv A outer s H E).nox [(defBody sCovering).getD 1 (.Pass ⟨0, 0, 0, 0⟩)]
        [some (bookD C k bs), some (tI c), some (tI costs), some (R D), some (.lst ((List.range c.length).filterMap (posD c))), some (R p), y6, y7, y8, none, none] (put O' D (oD (putD kvs1 c (covD r)))) { nx := fun _ O' => Ret Φ (.v .non) O', rt := Ret Φ } := fun r hr' =>
        fin _ (putD kvs1 c (covD r)) r _ _ _ _ _ _ _ (fun a od ha => by
          by_cases h : a = D
          · rw [h, put_same] at ha ⊢; exact ha
          · rw [put_ne h] at ha
            rw [put_ne h, ho a h fun z => by rw [z, hp] at ha; cases ha]
            exact ha) (K1.put hc hx0 hr') (valD_put _ _ _) hr'
      refine wss_one (ws_dput hu1 (wd_ifExp (wt_cmp op_gt (wd_len t.len (wd_name 5 ⟨fs.map entD, .inl (.own hp1), wd_int (rr_I0 ⟨_, rfl, fun q => ?_, fun q => ?_⟩)⟩)))))
      · cases hfs : fs with
        | nil => rw [hfs] at q; simp at q
        | cons e0 es =>
          subst hfs
          refine wd_minD t.min hu (wd_name 5 ⟨entD e0, es.map entD, .own hp1, isPs_ents (e0 :: es), alikeAll_ents (e0 :: es), fun w' hw hm => ?_⟩)
          obtain ⟨e, he, rfl⟩ := List.mem_map.mp (show w' ∈ (e0 :: es).map entD from hw)
          obtain ⟨e', he', q1, q2⟩ := min_ent es e0
          rw [q1] at hm
          have e1 : e.1 = e'.1 := by
            rw [toP_ent, toP_ent] at hm
            injection hm with hm
            injection hm with hm _
            injection hm
          exact wd_name 3 (wd_name 1 ⟨D, kvs1, c, rfl, rfl, hD1, K1.len hk3, last (some e) (hS e he fun e'' he'' => by rw [e1]; exact q2 e'' he'')⟩)
      · cases hfs : fs with
        | cons e0 es => rw [hfs] at q; have q := of_decide_eq_false q; simp at q
        | nil => exact wd_non (wd_name 3 (wd_name 1 ⟨D, kvs1, c, rfl, rfl, hD1, K1.len hk3, last none (hN hfs)⟩))
  · obtain ⟨d0, hd0⟩ : ∃ d0, valD kvs c = some d0 := by
      cases h : valD kvs c with
      | none => rw [h] at q; cases q
      | some d => exact ⟨d, rfl⟩
    obtain ⟨r, e1, e2⟩ := KN.v _ (valD_mem hd0)
    have e1 : d0 = covD r := e1
    refine wss_nil (fin O kvs r _ _ _ _ _ _ _ (fun a od ha => ?_) KN (by rw [hd0, e1]) e2)
    by_cases h : a = D
    · rw [h, put_same] at ha; rw [h, hD]; exact ha
    · rw [put_ne h] at ha; exact ha
theorem cCovering (t : Tx K mg) (bk : Bk K C) (i0 : Cal P w K mg base T CX0 "lacking" 1 ["crowd", "batch"] spLack) (i1 : Cal P w K mg base T CX0 "cost_of" 1 ["crowd", "costs"] spCost) (d : Df K mg "covering" sCovering ["book", "crowd", "costs", "known"]) : ∀ n : Nat,
    Cal P w K mg base T CX0 "covering" (n + 2) ["book", "crowd", "costs", "known"] (spCovering C n)
  | 0 => cCovBody t bk i0 i1 d 0 fun n' h => by omega
  | n + 1 => cCovBody t bk i0 i1 d (n + 1) fun n' h => by
    have e : n = n' := by omega
    subst e
    exact cCovering t bk i0 i1 d n
end
end DL

set_option Elab.async false
set_option linter.all false
set_option maxRecDepth 100000
set_option maxHeartbeats 4000000
/-! WK4: least_coming, coming_cost, added_cost, Book -/
namespace DL
open PySem PySem.Spec PyProof.Rows L2
theorem Chk.mono {p : Dat → Bool} {k : Nat} {d : Dat} {ok ok' : List Dat → Prop} {bad bad' : Int → Prop} (h : Chk p k d ok bad) (h1 : ∀ xs, seqD d = some xs → ok xs → ok' xs) (h2 : ∀ i, bad i → bad' i) : Chk p k d ok' bad' := by
  unfold Chk at h ⊢
  cases e : seqD d with
  | none => rw [e] at h; exact h2 _ h
  | some xs =>
    rw [e] at h
    exact ⟨fun i d' q1 q2 q3 => h2 _ (h.1 i d' q1 q2 q3), fun q => ⟨fun q2 => h2 _ ((h.2 q).1 q2), fun q2 => h1 xs e ((h.2 q).2 q2)⟩⟩
theorem chk_ok {p : Dat → Bool} {k : Nat} {d : Dat} {ok : List Dat → Prop} {bad : Int → Prop} {xs : List Dat} (hs : seqD d = some xs) (hp : ∀ x ∈ xs, p x = true) (hl : xs.length = k) (h : ok xs) : Chk p k d ok bad := by
  unfold Chk
  rw [hs]
  exact ⟨fun i d' q1 q2 _ => absurd (hp d' (List.mem_of_getElem? q1)) (by simp [q2]), fun _ => ⟨fun q => absurd hl q, fun _ => h⟩⟩
structure CrOk (k : Nat) (c : List Int) : Prop where
  l : c.length = k
  r : ∀ x ∈ c, 0 ≤ x ∧ x < 13
theorem num_all {c : List Int} (h : ∀ x ∈ c, 0 ≤ x) : ∀ x ∈ c.map I, isNumD x = true := fun x hx => by
  obtain ⟨n, hn, rfl⟩ := List.mem_map.mp hx
  exact decide_eq_true (h n hn)
theorem pos_all {c : List Int} (h : ∀ x ∈ c, 1 ≤ x) : ∀ x ∈ c.map I, isPosD x = true := fun x hx => by
  obtain ⟨n, hn, rfl⟩ := List.mem_map.mp hx
  exact decide_eq_true (by have := h n hn; omega)
theorem chk_num {k : Nat} {c : List Int} (h : CrOk k c) {ok : List Dat → Prop} {bad : Int → Prop} (q : ok (c.map I)) : Chk isNumD k (tI c) ok bad := chk_ok rfl (num_all fun x hx => (h.r x hx).1) (by rw [List.length_map, h.l]) q
theorem ok_ints (c : List Int) : ∀ x ∈ c.map I, okD x = true := fun x hx => by
  obtain ⟨n, hn, rfl⟩ := List.mem_map.mp hx
  rfl
theorem seqOk_tI {c : List Int} (h : c.length ≤ 1000) : seqOk (tI c) := ⟨rfl, fun xs e => by
  have e : c.map I = xs := Option.some.inj e
  rw [← e]
  exact ⟨by rw [List.length_map]; exact h, ok_ints c⟩⟩
theorem seqOk_lI {c : List Int} (h : c.length ≤ 1000) : seqOk (.lst (c.map I)) := ⟨rfl, fun xs e => by
  have e : c.map I = xs := Option.some.inj e
  rw [← e]
  exact ⟨by rw [List.length_map]; exact h, ok_ints c⟩⟩
theorem mapI_inj : ∀ {a b : List Int}, a.map I = b.map I → a = b
  | [], [], _ => rfl
  | [], _ :: _, h => by simp at h
  | _ :: _, [], h => by simp at h
  | x :: a, y :: b, h => by
    rw [List.map_cons, List.map_cons] at h
    injection h with h1 h2
    have h1 : x = y := by injection h1 with h1; injection h1
    rw [h1, mapI_inj h2]
theorem sum_le39 {k : Nat} {c : List Int} (h : CrOk k c) (hk : k ≤ 3) : c.sum ≤ 39 := by
  have : ∀ a : List Int, a.length ≤ 3 → (∀ x ∈ a, x < 13) → a.sum ≤ 39 := fun a h1 h2 => by
    match a, h1, h2 with
    | [], _, _ => simp
    | [x], _, h2 => have := h2 x (by simp); simp; omega
    | [x, y], _, h2 => have := h2 x (by simp); have := h2 y (by simp); simp; omega
    | [x, y, z], _, h2 => have := h2 x (by simp); have := h2 y (by simp); have := h2 z (by simp); simp; omega
    | _ :: _ :: _ :: _ :: _, h1, _ => simp at h1
  exact this c (by rw [h.l]; exact hk) fun x hx => (h.r x hx).2
theorem dot_sub : ∀ {a b c : List Int}, a.length = b.length → dot (subC a b) c = dot a c - dot b c
  | [], [], _, _ => by simp [dot, subC]
  | [], _ :: _, _, h => by simp at h
  | _ :: _, [], _, h => by simp at h
  | x :: a, y :: b, [], h => by simp [dot, subC]
  | x :: a, y :: b, z :: c, h => by
    have e : dot (subC (x :: a) (y :: b)) (z :: c) = (x - y) * z + dot (subC a b) c := by
      show (List.zipWith (· * ·) ((x - y) :: subC a b) (z :: c)).sum = _
      rw [List.zipWith_cons_cons, sum_cons_int]; rfl
    have e1 : dot (x :: a) (z :: c) = x * z + dot a c := by
      show (List.zipWith (· * ·) (x :: a) (z :: c)).sum = _
      rw [List.zipWith_cons_cons, sum_cons_int]; rfl
    have e2 : dot (y :: b) (z :: c) = y * z + dot b c := by
      show (List.zipWith (· * ·) (y :: b) (z :: c)).sum = _
      rw [List.zipWith_cons_cons, sum_cons_int]; rfl
    rw [e, e1, e2, dot_sub (by simpa using h), Int.sub_mul]
    omega
def leastD (k : Nat) (bs : List (List Int)) (c : List Int) : Option (Int × List Nat) → Dat
  | none => N
  | some e => tI (subC (sumRun k bs e.2) c)
def comD (costs c : List Int) : Option (Int × List Nat) → Dat
  | none => N
  | some e => I (e.1 - dot c costs)
/-- both questions checked, then answered -/
def Asked (cC cQ : Addr) (k : Nat) (d1 d2 : Dat) (O : OHp) (Ψ : Addr → Dat → OHp → Prop) (G : List Int → List Int → Prop) : Prop :=
  Chk isNumD k d1 (fun xs => ∃ c, xs = c.map I ∧ CrOk k c ∧ Chk isPosD k d2 (fun ys => ∃ costs, ys = costs.map I ∧ CostOk k costs ∧ G c costs) (fun i => Ψ cQ (I i) O)) (fun i => Ψ cC (I i) O)
theorem Asked.mono {cC cQ : Addr} {k : Nat} {d1 d2 : Dat} {O : OHp} {Ψ : Addr → Dat → OHp → Prop} {G G' : List Int → List Int → Prop} (h : Asked cC cQ k d1 d2 O Ψ G) (hg : ∀ c costs, seqD d2 = some (costs.map I) → CrOk k c → CostOk k costs → G c costs → G' c costs) : Asked cC cQ k d1 d2 O Ψ G' :=
  Chk.mono h (fun xs _ ⟨c, e1, e2, e3⟩ => ⟨c, e1, e2, e3.mono (fun ys hy ⟨costs, e4, e5, e6⟩ => ⟨costs, e4, e5, hg c costs (by rw [hy, e4]) e2 e5 e6⟩) fun _ q => q⟩) fun _ q => q
def spLeast (cC cQ C : Addr) : DSp := fun ds O Φ Ψ => ∃ k bs d1 d2, ds = [bookD C k bs, d1, d2] ∧ BookOk k bs ∧ seqOk d1 ∧ seqOk d2 ∧ Asked cC cQ k d1 d2 O Ψ fun c costs => ∀ r, CovOK bs costs c r → Φ (leastD k bs c r) O
def spComing (cC cQ C : Addr) : DSp := fun ds O Φ Ψ => ∃ k bs d1 d2, ds = [bookD C k bs, d1, d2] ∧ BookOk k bs ∧ seqOk d1 ∧ seqOk d2 ∧ Asked cC cQ k d1 d2 O Ψ fun c costs => ∀ r, CovOK bs costs c r → Φ (comD costs c r) O
abbrev sLeast : Stmt := topS 28
abbrev sComing : Stmt := topS 29
abbrev sAdded : Stmt := topS 30
theorem scLeast : FnScope ["book", "crowd", "costs", "waiting", "row", "found"] ["book", "crowd", "costs"] (defScope sLeast) := C8.fnScope_by (by decide +kernel)
theorem scComing : FnScope ["book", "crowd", "costs", "coming"] ["book", "crowd", "costs"] (defScope sComing) := C8.fnScope_by (by decide +kernel)
theorem scAdded : FnScope ["book", "crowd", "batch", "costs", "waiting", "before", "after"] ["book", "crowd", "batch", "costs"] (defScope sAdded) := C8.fnScope_by (by decide +kernel)
section
variable {P : Program} {w : World} {K : PySem.W.Frag} {mg : Str → Option Value} {base : Heap} {T : List (Addr × Str)} {cB cC cR cQ C : Addr}
theorem okLeast (t : Tx K mg) (bk : Bk K C) (i0 : Cal P w K mg base T (L2.CX P w) "checked_crowd" 3 ["book", "value"] (spChk isNumD cC C)) (i1 : Cal P w K mg base T (L2.CX P w) "checked_costs" 3 ["book", "costs"] (spChk isPosD cQ C))
    (i2 : Cal P w K mg base T CX0 "covering" 42 ["book", "crowd", "costs", "known"] (spCovering C 40)) (i3 : Cal P w K mg base T CX0 "less" 1 ["one", "other"] spLess) (i4 : Cal P w K mg base T CX0 "crowd_of" 5 ["book", "run"] (spCrowdOf C))
    {f : Addr} {fd : FuncData} (F : Fun K "least_coming" "least_coming" sLeast f fd) : FnOk P w K mg base (L2.CX P w) 43 f fd ["book", "crowd", "costs"] (lift T K (spLeast cC cQ C)) := by
  refine fnOkX F scLeast (fun ds O Φ Ψ ⟨k, bs, d1, d2, h, _⟩ => by rw [h]; rfl) fun cdv A outer s H E H0 O ds Φ Ψ hr ⟨k, bs, d1, d2, e, BO, sq1, sq2, ask⟩ lk => ?_
  subst e
  have hk3 := BO.k3
  have hk1 := BO.k1
  have px : Passes (L2.CX P w) (cxOf (L2.CX P w) P w K mg base ["book", "crowd", "costs", "waiting", "row", "found"] "least_coming" (defScope sLeast) f cdv A outer s H E) E := passes_call (takes_of rfl rfl rfl rfl) (fun _ _ _ _ h => h)
  refine wss_cons (ws_par 3 4 (wa_two (wd_callX i0 (hr.mono (by decide)) px lk (wa_two (wd_name 0 (wd_name 1 ⟨k, bs, d1, rfl, sq1, Chk.mono ask (fun xs hx ⟨c, e1, CO, ck⟩ => ?_) fun i q => q⟩))))) scLeast.nd)
  refine wd_callX i1 (hr.mono (by decide)) px lk (wa_two (wd_name 0 (wd_name 2 ⟨k, bs, d2, rfl, sq2, ck.mono (fun ys hy ⟨costs, e2, CS, G⟩ => ?_) fun i q => q⟩)))
  subst e1 e2
  refine ⟨_, _, rfl, ?_⟩
  refine wss_cons (ws_set 5 (wd_call i2 hr (wa_cons (wd_name 0 (wa_cons (wd_name 3 (wa_two (wd_name 4 (wd_dict0 fun p hp => ⟨k, bs, costs, c, p, [], rfl, put_same, BO, CS, ⟨fun _ h => by simp at h, fun _ h => by simp at h, by simp⟩, CO.l, CO.r, by have := sum_le39 CO hk3; omega, fun r kvs' hr' _ => ?_⟩)))))))) scLeast.nd)
  refine wss_one (ws_ret (wd_ifExp (wt_isN (wd_nm 5 rfl ⟨by cases r <;> rfl, fun q => ?_, fun q => ?_⟩))))
  · cases r with
    | some e => cases q
    | none => exact wd_non (.inl ⟨O, by rw [put_put]; exact sub_put hp, G none hr'⟩)
  · cases r with
    | none => cases q
    | some e =>
      obtain ⟨⟨c1, c2⟩, c3, c4, c5⟩ := id hr'
      have hb : ∀ b ∈ bs, b.length = k := fun b hb => (BO.b b hb).1
      have sl := sumRun_len hb c1
      have := sum_le39 CO hk3
      exact wd_call i3 (hr.mono (by decide)) (wa_two (wd_call i4 (hr.mono (by decide)) (wa_two (wd_name 0 (wd_ixT (wd_nm 5 rfl (wd_int ⟨_, 1, runD e.2, rfl, rfl, atI_nat (j := 1) rfl, k, bs, e.2, rfl, hk1, by omega, hb, by omega, c1, wd_nm 3 rfl ⟨sumRun k bs e.2, c, rfl, by rw [sl, CO.l], by rw [sl]; omega, .inl ⟨O, by rw [put_put]; exact sub_put hp, G (some e) hr'⟩⟩⟩)))))))
theorem seq_ints {d : Dat} {costs : List Int} (h : seqD d = some (costs.map I)) : d = tI costs ∨ d = .lst (costs.map I) := by
  cases d with
  | lst ys => have e : ys = costs.map I := Option.some.inj h; subst e; exact .inr rfl
  | tup ys => have e : ys = costs.map I := Option.some.inj h; subst e; exact .inl rfl
  | v x => cases h
  | ins C ns xs => cases h
  | dic => cases h
  | scr ns => cases h
  | any => cases h
theorem okComing (t : Tx K mg) (i0 : Cal P w K mg base T (L2.CX P w) "least_coming" 43 ["book", "crowd", "costs"] (spLeast cC cQ C)) (i1 : Cal P w K mg base T CX0 "cost_of" 1 ["crowd", "costs"] spCost)
    {f : Addr} {fd : FuncData} (F : Fun K "coming_cost" "coming_cost" sComing f fd) : FnOk P w K mg base (L2.CX P w) 44 f fd ["book", "crowd", "costs"] (lift T K (spComing cC cQ C)) := by
  refine fnOkX F scComing (fun ds O Φ Ψ ⟨k, bs, d1, d2, h, _⟩ => by rw [h]; rfl) fun cdv A outer s H E H0 O ds Φ Ψ hr ⟨k, bs, d1, d2, e, BO, sq1, sq2, ask⟩ lk => ?_
  subst e
  have hk3 := BO.k3
  have px : Passes (L2.CX P w) (cxOf (L2.CX P w) P w K mg base ["book", "crowd", "costs", "coming"] "coming_cost" (defScope sComing) f cdv A outer s H E) E := passes_call (takes_of rfl rfl rfl rfl) (fun _ _ _ _ h => h)
  refine wss_cons (ws_set 3 (wd_callX i0 hr px lk (wa_cons (wd_name 0 (wa_two (wd_name 1 (wd_name 2 ⟨k, bs, d1, d2, rfl, BO, sq1, sq2, ask.mono fun c costs hd2 CO CS G r hr' => ?_⟩)))))) scComing.nd)
  refine wss_one (ws_ret (ret_val (wd_ifExp (wt_isN (wd_nm 3 rfl ⟨by cases r <;> rfl, fun q => ?_, fun q => ?_⟩)))))
  · cases r with
    | some e => cases q
    | none => exact wd_non (G none hr')
  · cases r with
    | none => cases q
    | some e =>
      obtain ⟨⟨c1, c2⟩, c3, c4, c5⟩ := id hr'
      have hb : ∀ b ∈ bs, b.length = k := fun b hb => (BO.b b hb).1
      have sl := sumRun_len hb c1
      refine wd_call i1 (hr.mono (by decide)) (wa_two (wd_nm 3 rfl (wd_nm 2 rfl ⟨subC (sumRun k bs e.2) c, costs, d2, rfl, seq_ints hd2, by simp [subC, sl, CO.l, CS.l], by simp [subC, sl, CO.l]; omega, fun y hy => ⟨by have := CS.r y hy; omega, by have := CS.r y hy; omega⟩, ?_⟩)))
      rw [dot_sub (by rw [sl, CO.l]), sumRun_cost hb c1, ← c3]
      exact G (some e) hr'
/-! ### added_cost -/
def idxOf (d : Dat) (m : Nat) : Option Nat := match d with
  | .v (.int n) => if 0 ≤ n ∧ n < m then some n.toNat else none
  | _ => none
def addD (costs c b : List Int) : Option (Int × List Nat) → Option (Int × List Nat) → Dat
  | none, _ => N
  | some e, some e' => I ((e'.1 - dot (subC c b) costs) - (e.1 - dot c costs))
  | some _, none => N
def spAdded (cC cR cQ C : Addr) : DSp := fun ds O Φ Ψ => ∃ k bs d1 db d2, ds = [bookD C k bs, d1, db, d2] ∧ BookOk k bs ∧ seqOk d1 ∧ okD db = true ∧ seqOk d2 ∧
  Chk isNumD k d1 (fun xs => ∃ c, xs = c.map I ∧ CrOk k c ∧ match idxOf db bs.length with
    | none => Ψ cR (I 0) O
    | some n => (leCr (bat bs n) c = false → Ψ cR (I 0) O) ∧ (leCr (bat bs n) c = true → Chk isPosD k d2 (fun ys => ∃ costs, ys = costs.map I ∧ CostOk k costs ∧ ∀ r r', CovOK bs costs c r → CovOK bs costs (subC c (bat bs n)) r' → Φ (addD costs c (bat bs n) r r') O) (fun i => Ψ cQ (I i) O))) (fun i => Ψ cC (I i) O)
theorem idx_none {d : Dat} {m : Nat} (h : idxOf d m = none) : inIdx d m = false := by
  cases d with
  | v x =>
    cases x with
    | int n =>
      have h : (if 0 ≤ n ∧ n < (m : Int) then some n.toNat else none) = none := h
      show (decide (0 ≤ n) && decide (n < (m : Int))) = false
      by_cases q : 0 ≤ n ∧ n < (m : Int)
      · rw [if_pos q] at h; cases h
      · rw [Bool.and_eq_false_iff]
        by_cases q1 : 0 ≤ n
        · exact .inr (decide_eq_false fun z => q ⟨q1, z⟩)
        · exact .inl (decide_eq_false q1)
    | _ => rfl
  | _ => rfl
theorem idx_some {d : Dat} {m n : Nat} (h : idxOf d m = some n) : d = I (n : Int) ∧ n < m := by
  cases d with
  | v x =>
    cases x with
    | int i =>
      unfold idxOf at h
      dsimp only at h
      by_cases q : 0 ≤ i ∧ i < (m : Int)
      · rw [if_pos q] at h
        have h := Option.some.inj h
        have e : (n : Int) = i := by omega
        exact ⟨by rw [e], by omega⟩
      · rw [if_neg q] at h; cases h
    | _ => cases h
  | _ => cases h
theorem sub_ok {k : Nat} {c b : List Int} (CO : CrOk k c) (hb : b.length = k) (hn : ∀ x ∈ b, 0 ≤ x) (h : leCr b c = true) : CrOk k (subC c b) := by
  have le := (leCr_iff (by rw [hb, CO.l])).mp h
  refine ⟨by simp [subC, CO.l, hb], fun x hx => ?_⟩
  unfold subC at hx
  obtain ⟨i, hi⟩ := List.getElem?_of_mem hx
  rw [List.getElem?_zipWith] at hi
  split at hi
  · rename_i u v e1 e2
    have := Option.some.inj hi
    have h1 := CO.r u (List.mem_of_getElem? e1)
    have h2 := hn v (List.mem_of_getElem? e2)
    have h3 := le i
    simp only [g0, List.getD_eq_getElem?_getD, e1, e2, Option.getD_some] at h3
    omega
  · cases hi
theorem cov_sub {bs : List (List Int)} {c b : List Int} {run : List Nat} (hl : c.length = b.length) (hn : ∀ x ∈ b, 0 ≤ x) (h : Cov bs c run) : Cov bs (subC c b) run := ⟨h.1, fun j => by
  have := h.2 j
  have h2 := g0_nn hn j
  by_cases hj : j < c.length
  · have e : g0 (subC c b) j = g0 c j - g0 b j := g0_zw hl hj
    omega
  · rw [g0_out (a := subC c b) (by simp [subC]; omega)]
    rw [g0_out (a := c) (by omega)] at this
    exact this⟩
theorem okAdded (t : Tx K mg) (bk : Bk K C) (xr : Exc1 P w K mg base "InvalidRun" cR) (i0 : Cal P w K mg base T (L2.CX P w) "checked_crowd" 3 ["book", "value"] (spChk isNumD cC C)) (i1 : Cal P w K mg base T CX0 "is_index" 3 ["value", "many"] spIsIdx) (i2 : Cal P w K mg base T CX0 "within" 1 ["one", "other"] spWith)
    (i3 : Cal P w K mg base T (L2.CX P w) "coming_cost" 44 ["book", "crowd", "costs"] (spComing cC cQ C)) (i4 : Cal P w K mg base T CX0 "less" 1 ["one", "other"] spLess)
    {f : Addr} {fd : FuncData} (F : Fun K "added_cost" "added_cost" sAdded f fd) : FnOk P w K mg base (L2.CX P w) 45 f fd ["book", "crowd", "batch", "costs"] (lift T K (spAdded cC cR cQ C)) := by
  refine fnOkX F scAdded (fun ds O Φ Ψ ⟨k, bs, d1, db, d2, h, _⟩ => by rw [h]; rfl) fun cdv A outer s H E H0 O ds Φ Ψ hr ⟨k, bs, d1, db, d2, e, BO, sq1, okb, sq2, ck⟩ lk => ?_
  subst e
  have hk3 := BO.k3
  have hr2 : Room 2 (A.deeper (envOfC "added_cost" (defScope sAdded) s.heap.objs.size f cdv)) := hr.mono (by decide)
  have px : Passes (L2.CX P w) (cxOf (L2.CX P w) P w K mg base ["book", "crowd", "batch", "costs", "waiting", "before", "after"] "added_cost" (defScope sAdded) f cdv A outer s H E) E := passes_call (takes_of rfl rfl rfl rfl) (fun _ _ _ _ h => h)
  refine wss_cons (ws_set 4 (wd_callX i0 (hr.mono (by decide)) px lk (wa_two (wd_name 0 (wd_name 1 ⟨k, bs, d1, rfl, sq1, Chk.mono ck (fun xs hx ⟨c, e1, CO, G⟩ => ?_) fun i q => q⟩)))) scAdded.nd)
  subst e1
  have hbl : ∀ {n : Nat}, n < bs.length → (bat bs n).length = k ∧ (∀ x ∈ bat bs n, 0 ≤ x) := fun h => ⟨(BO.b _ (bat_mem h)).1, (BO.b _ (bat_mem h)).2.1⟩
  refine wss_cons (ws_if (wt_ww (ww_or (wt_not (wt_val (wd_call i1 (hr.mono (by decide)) (wa_two (wd_name 2 (wd_len t.len (wd_fld (wd_name 0 ⟨C, _, _, _, rfl, bk.cls, bk.n2, rfl, _, .inr rfl, db, (bs.map tI).length, rfl, okb, _, rfl, fun q => ?_, fun q => ww_or1 (wt_not ?_)⟩)))))))))))
  · -- no index
    have hn : idxOf db bs.length = none := by
      cases h : idxOf db bs.length with
      | none => rfl
      | some n =>
        obtain ⟨e1, e2⟩ := idx_some h
        subst e1
        have a1 : decide ((0 : Int) ≤ (n : Int)) = true := decide_eq_true (by omega)
        have a2 : decide ((n : Int) < ((bs.map tI).length : Int)) = true := decide_eq_true (by rw [List.length_map]; omega)
        have q : (!(decide ((0 : Int) ≤ (n : Int)) && decide ((n : Int) < ((bs.map tI).length : Int)))) = true := q
        rw [a1, a2] at q
        cases q
    rw [hn] at G
    exact ⟨fun _ => wss_one (ws_raise xr hr2 (takes_of rfl rfl rfl rfl) lk (wd_int G)), (fun z => nomatch z)⟩
  · obtain ⟨n, hn⟩ : ∃ n, idxOf db bs.length = some n := by
      cases h : idxOf db bs.length with
      | some n => exact ⟨n, rfl⟩
      | none =>
        have e := idx_none h
        have q : (!(inIdx db ((bs.map tI).length : Nat))) = false := q
        rw [List.length_map, e] at q
        cases q
    obtain ⟨e1, e2⟩ := idx_some hn
    subst e1
    rw [hn] at G
    obtain ⟨G1, G2⟩ := G
    have hbn : (bs.map tI)[n]? = some (tI (bat bs n)) := by
      rw [List.getElem?_map, List.getElem?_eq_getElem e2]
      show some (tI bs[n]) = some (tI (bat bs n))
      rw [bat_get (List.getElem?_eq_getElem e2)]
    obtain ⟨b1, b2⟩ := hbl e2
    refine wt_val (wd_call i2 (hr.mono (by decide)) (wa_two (wd_ixT (wd_fld (wd_name 0 ⟨C, _, _, _, rfl, bk.cls, bk.n2, rfl, wd_nm 2 rfl ⟨_, (n : Int), tI (bat bs n), rfl, rfl, atI_ofNat hbn, wd_nm 4 rfl ⟨bat bs n, c, rfl, by rw [b1, CO.l], by omega, _, rfl, fun q => ?_, fun q => wss_nil ?_⟩⟩⟩)))))
    · exact wss_one (ws_raise xr hr2 (takes_of rfl rfl rfl rfl) lk (wd_int (G1 (by simpa using q))))
    · have hle : leCr (bat bs n) c = true := by simpa using q
      have G2 := G2 hle
      have CO2 := sub_ok CO b1 b2 hle
      have s4 : seqOk (tI c) := seqOk_tI (by rw [CO.l]; omega)
      refine wss_cons (ws_set 5 (wd_callX i3 hr px lk (wa_cons (wd_name 0 (wa_two (wd_nm 4 rfl (wd_name 3 ⟨k, bs, tI c, d2, rfl, BO, s4, sq2, chk_num CO ⟨c, rfl, CO, G2.mono (fun ys hy ⟨costs, e3, CS, G3⟩ => ⟨costs, e3, CS, fun r hr1 => ?_⟩) fun i q => q⟩⟩)))))) scAdded.nd)
      subst e3
      have s5 : seqOk (tI (subC c (bat bs n))) := seqOk_tI (by rw [CO2.l]; omega)
      refine wss_cons (ws_set 6 (wd_callX i3 hr px lk (wa_cons (wd_name 0 (wa_two (wd_call i4 (hr.mono (by decide)) (wa_two (wd_nm 4 rfl (wd_ixT (wd_fld (wd_nm 0 rfl ⟨C, _, _, _, rfl, bk.cls, bk.n2, rfl, wd_nm 2 rfl ⟨_, (n : Int), tI (bat bs n), rfl, rfl, atI_ofNat hbn, c, bat bs n, rfl, by rw [b1, CO.l], by rw [CO.l]; omega, wd_nm 3 rfl ⟨k, bs, tI (subC c (bat bs n)), d2, rfl, BO, s5, sq2, ?_⟩⟩⟩)))))))))) scAdded.nd)
      refine chk_num CO2 ⟨_, rfl, CO2, chk_ok hy (pos_all fun x hx => (CS.r x hx).1) (by rw [List.length_map, CS.l]) ⟨costs, rfl, CS, fun r' hr2' => ?_⟩⟩
      have G3 := G3 r r' hr1 hr2'
      refine wss_one (ws_ret (ret_val (wd_ifExp (wt_isN (wd_nm 5 rfl ⟨by cases r <;> rfl, fun q => ?_, fun q => ?_⟩)))))
      · cases r with
        | some e => cases q
        | none => exact wd_non G3
      · cases r with
        | none => cases q
        | some e =>
          cases r' with
          | none => exact absurd (cov_sub (by rw [CO.l, b1]) b2 hr1.1) (hr2' e.2)
          | some e' => exact wd_op op_sub (wd_nm 6 rfl (wd_nm 5 rfl (rr_I0 G3)))
end
end DL

set_option Elab.async false
set_option linter.all false
set_option maxRecDepth 100000
set_option maxHeartbeats 4000000
/-! WK5: Book.__init__ -/
namespace DL
open PySem PySem.Spec PyProof.Rows L2
abbrev sBookInit : Stmt := match topS 18 with
  | .ClassDef (body := b) .. => b.getD 0 (.Pass ⟨0, 0, 0, 0⟩)
  | _ => .Pass ⟨0, 0, 0, 0⟩
theorem scBookInit : FnScope ["self", "kinds", "batches", "at", "batch"] ["self", "kinds", "batches"] (defScope sBookInit) := C8.fnScope_by (by decide +kernel)
def spBookInit (C : Addr) : DSp := fun ds O Φ _ => ∃ p dx k bs, ds = [R p, I (k : Nat), lT bs] ∧ O p = some (.ins C dx [] []) ∧ BookOk k bs ∧ bs.Nodup ∧ bs.mergeSort leC = bs ∧ Φ N (put O p (.ins C dx ["kinds", "batches", "_found"] [I k, .tup (bs.map tI), .dic]))
section
variable {P : Program} {w : World} {K : PySem.W.Frag} {mg : Str → Option Value} {base : Heap} {T : List (Addr × Str)} {cB cC cR cQ C : Addr}
theorem cBookInit (t : Tx K mg) (bk : Bk K C) (i0 : Cal P w K mg base T CX0 "is_number" 2 ["value"] spIsNum) (i1 : Cal P w K mg base T CX0 "is_sequence" 1 ["value"] spIsSeq) (i2 : Cal P w K mg base T CX0 "is_batch" 3 ["kinds", "value"] spIsBatch)
    {f : Addr} {fd : FuncData} (F : Fun K "__init__" "Book.__init__" sBookInit f fd) : FnOk P w K mg base (L2.CX P w) 4 f fd ["self", "kinds", "batches"] (lift T K (spBookInit C)) := by
  refine fnOkX F scBookInit (fun ds O Φ Ψ ⟨p, dx, k, bs, h, _⟩ => by rw [h]; rfl) fun cdv A outer s H E H0 O ds Φ Ψ hr ⟨p, dx, k, bs, e, hp, BO, nd, srt, φ⟩ lk => ?_
  subst e
  have hk1 := BO.k1
  have hk3 := BO.k3
  have hn := BO.n
  have hu : (A.deeper (envOfC "Book.__init__" (defScope sBookInit) s.heap.objs.size f cdv)).units + 64 < cLine := hr.units
  have hu65 : (A.deeper (envOfC "Book.__init__" (defScope sBookInit) s.heap.objs.size f cdv)).units + 65 < cLine := by have := hr.un; omega
  refine wss_cons (ws_if (wt_ww (ww_or (wt_not (wt_val (wd_call i0 (hr.mono (by decide)) (wa_1 (wd_name 1 ⟨I (k : Int), rfl, rfl, true, ?_, (fun z => nomatch z), fun _ => ww_or1 (wt_cmp op_eq (wd_name 1 (wd_int (rr_eq rfl ⟨_, rfl, fun q => ?_, fun _ => wss_nil ?_⟩))))⟩))))))))
  · show B (decide ((0 : Int) ≤ (k : Int))) = B true
    rw [decide_eq_true (by omega)]
  · have q := of_decide_eq_true q
    injection q with q
    omega
  refine wss_cons (ws_if (wt_not (wt_val (wd_call i1 (hr.mono (by decide)) (wa_1 (wd_name 2 ⟨lT bs, rfl, rfl, true, rfl, (fun z => nomatch z), fun _ => wss_nil ?_⟩))))))
  refine wss_cons (ws_for (passes_of rfl) (pg2 3 4 scBookInit.nd) (wi_enumL t.enumerate (wd_name 2 ⟨bs.map tI, .lst, fun i Γ' O' => (∃ y3 y4, Γ' = [some (R p), some (I (k : Int)), some (lT bs), y3, y4]) ∧ O' = O, ⟨⟨_, _, rfl⟩, rfl⟩, fun _ _ _ _ => .lst, ?_, ?_⟩)))
  · rintro i d2 Γ' O' hii ⟨⟨y3, y4, rfl⟩, rfl⟩ ⟨x, hx, rfl⟩
    obtain ⟨b, hb, rfl⟩ := tIs_get hx
    have hm := List.mem_of_getElem? hb
    obtain ⟨b1, b2, b3⟩ := BO.b b hm
    refine rg2 (wss_one (ws_if (wt_ww (ww_or (wt_not (wt_val (wd_call i2 hr (wa_two (wd_name 1 (wd_name 4 ⟨k, b, rfl, b1, b2, b3, by omega, true, rfl, (fun z => nomatch z), fun _ => ww_or1 ?_⟩))))))))))
    refine wt_cmp (op_inD hu65) (wd_name 4 (wd_slice sl_list (wd_nm 2 rfl (wo_none (wo_some (wd_nm 3 rfl ⟨(i : Int), rfl, rsl_list .lst (.inl ?_)⟩))))))
    rw [cutD_to, ← List.map_take]
    refine rr_inD (seeP_tI b) (seeP_lT (bs.take i)) ⟨_, rfl, fun q => ?_, fun _ => wss_nil ⟨⟨_, _, rfl⟩, rfl⟩⟩
    rw [any_tI] at q
    have q := of_decide_eq_true q
    obtain ⟨j, hj⟩ := List.getElem?_of_mem q
    rw [List.getElem?_take] at hj
    split at hj
    · rename_i hji
      have h1 := (List.getElem?_eq_some_iff.mp hj)
      have h2 := (List.getElem?_eq_some_iff.mp hb)
      obtain ⟨a1, a2⟩ := h1
      obtain ⟨c1, c2⟩ := h2
      exact ((List.pairwise_iff_getElem.mp nd) j i a1 c1 hji (by rw [a2, c2])).elim
    · cases hj
  · rintro Γ' O' ⟨⟨y3, y4, rfl⟩, rfl⟩
    refine wss_cons (ws_fld (wd_name 1 (wd_name 0 ⟨p, C, dx, [], [], rfl, hp, bk.cls, bk.n1, by simp, by simp, ?_⟩)))
    refine wss_cons (ws_fld (wd_tupleOf t.tuple (wd_sortC t.sorted hu (wd_name 2 ⟨bs, .lst, fun c hc => ?_, .inl ⟨_, .inl .lst, wd_name 0 ⟨p, C, dx, _, _, rfl, put_same, bk.cls, bk.n2, by decide, by decide, ?_⟩⟩⟩))))
    · intro z
      have := (BO.b c hc).1
      rw [z] at this
      simp at this
      omega
    · rw [srt, put_put]
      refine wss_one (ws_fld (wd_dictK (wd_name 0 ⟨p, C, dx, _, _, rfl, put_same, bk.cls, bk.n3, by decide, by decide, ?_⟩)))
      rw [put_put]
      exact .same φ
end
end DL

set_option Elab.async false
set_option linter.all false
set_option maxRecDepth 100000
set_option maxHeartbeats 4000000
/-! WK6: draws, and the law's own plain helpers -/
namespace DL
open PySem PySem.Spec PyProof.Rows L2
/-! ### what is drawn from -/
structure DealAt (O : OHp) (D L : Addr) (b : Int) (ns : List Int) : Prop where
  d : O D = some (.lst [R L, I b])
  l : O L = some (.lst (ns.map I))
  ne : L ≠ D
  n : ns.length ≤ 1000
def DealOk (O : OHp) (D : Addr) : Prop := ∃ L b ns, DealAt O D L b ns
def Draws (O O' : OHp) (D : Addr) : Prop := ∃ L b ns, DealAt O D L b ns ∧ (∃ b' ns', DealAt O' D L b' ns') ∧ ∀ a, a ≠ D → a ≠ L → O' a = O a
theorem Draws.refl {O : OHp} {D : Addr} (h : DealOk O D) : Draws O O D := by
  obtain ⟨L, b, ns, h⟩ := h
  exact ⟨L, b, ns, h, ⟨b, ns, h⟩, fun _ _ _ => rfl⟩
theorem Draws.ok {O O' : OHp} {D : Addr} (h : Draws O O' D) : DealOk O' D := by
  obtain ⟨L, b, ns, h, ⟨b', ns', h'⟩, _⟩ := h
  exact ⟨L, b', ns', h'⟩
theorem Draws.ok0 {O O' : OHp} {D : Addr} (h : Draws O O' D) : DealOk O D := by
  obtain ⟨L, b, ns, h, _⟩ := h
  exact ⟨L, b, ns, h⟩
theorem Draws.trans {O O' O'' : OHp} {D : Addr} (h : Draws O O' D) (h' : Draws O' O'' D) : Draws O O'' D := by
  obtain ⟨L, b, ns, a1, ⟨b', ns', a2⟩, a3⟩ := h
  obtain ⟨L', c, ms, c1, ⟨c', ms', c2⟩, c3⟩ := h'
  have e := a2.d.symm.trans c1.d
  simp only [Option.some.injEq, OD.lst.injEq, List.cons.injEq, Dat.v.injEq, V.ref.injEq] at e
  have e := e.1
  subst e
  exact ⟨L, b, ns, a1, ⟨c', ms', c2⟩, fun a h1 h2 => (c3 a h1 h2).trans (a3 a h1 h2)⟩
/-- a cell that is not drawn from -/
def Away (O : OHp) (D p : Addr) : Prop := p ≠ D ∧ ∀ L b, O D = some (.lst [R L, I b]) → p ≠ L
theorem Draws.away {O O' : OHp} {D p : Addr} (h : Draws O O' D) (ha : Away O D p) : O' p = O p ∧ Away O' D p := by
  obtain ⟨L, b, ns, a1, ⟨b', ns', a2⟩, a3⟩ := h
  refine ⟨a3 p ha.1 (ha.2 L b a1.d), ha.1, fun L' c e => ?_⟩
  have e := a2.d.symm.trans e
  simp only [Option.some.injEq, OD.lst.injEq, List.cons.injEq, Dat.v.injEq, V.ref.injEq] at e
  rw [← e.1]
  exact ha.2 L b a1.d
theorem away_new {O : OHp} {D p : Addr} (h : DealOk O D) (hp : O p = none) : Away O D p := by
  obtain ⟨L, b, ns, h⟩ := h
  refine ⟨(fun z => by rw [z, h.d] at hp; cases hp), fun L' c e z => ?_⟩
  have e := h.d.symm.trans e
  simp only [Option.some.injEq, OD.lst.injEq, List.cons.injEq, Dat.v.injEq, V.ref.injEq] at e
  rw [z, ← e.1, h.l] at hp
  cases hp
theorem DealOk.put {O : OHp} {D p : Addr} {od : OD} (h : DealOk O D) (ha : Away O D p) : DealOk (put O p od) D := by
  obtain ⟨L, b, ns, h⟩ := h
  exact ⟨L, b, ns, by rw [put_ne (Ne.symm ha.1)]; exact h.d, by rw [put_ne (Ne.symm (ha.2 L b h.d))]; exact h.l, h.ne, h.n⟩
theorem Away.put {O : OHp} {D p : Addr} {od : OD} (ha : Away O D p) : Away (put O p od) D p := ⟨ha.1, fun L b e => ha.2 L b (by rw [put_ne (Ne.symm ha.1)] at e; exact e)⟩
theorem Away.put2 {O : OHp} {D p q : Addr} {od : OD} (ha : Away O D p) (hq : q ≠ D) : Away (DL.put O q od) D p := ⟨ha.1, fun L b e => ha.2 L b (by rw [put_ne (Ne.symm hq)] at e; exact e)⟩
/-! ### scopes -/
abbrev sDraw : Stmt := topS 32
abbrev sAny : Stmt := topS 33
abbrev sOf : Stmt := topS 34
abbrev sLWithin : Stmt := topS 35
abbrev sLLess : Stmt := topS 36
abbrev sLMore : Stmt := topS 37
abbrev sCrowds : Stmt := topS 38
abbrev sZero : Stmt := topS 39
abbrev sLCost : Stmt := topS 45
abbrev sIsCrowd : Stmt := topS 46
abbrev sLLack : Stmt := topS 49
theorem scDraw : FnScope ["_law_script", "_law_salt", "_law_cells", "_law_blend", "_law_cell"] ["_law_script", "_law_salt"] (defScope sDraw) := C8.fnScope_by (by decide +kernel)
theorem scAny : FnScope ["_law_deal", "_law_bound", "_law_rest"] ["_law_deal", "_law_bound"] (defScope sAny) := C8.fnScope_by (by decide +kernel)
theorem scOf : FnScope ["_law_deal", "_law_some"] ["_law_deal", "_law_some"] (defScope sOf) := C8.fnScope_by (by decide +kernel)
theorem scLWithin : FnScope ["_law_one", "_law_other", "_law_at", "_law_x"] ["_law_one", "_law_other"] (defScope sLWithin) := C8.fnScope_by (by decide +kernel)
theorem scLLess : FnScope ["_law_one", "_law_other", "_law_at", "_law_x"] ["_law_one", "_law_other"] (defScope sLLess) := C8.fnScope_by (by decide +kernel)
theorem scLMore : FnScope ["_law_one", "_law_other", "_law_at", "_law_x"] ["_law_one", "_law_other"] (defScope sLMore) := C8.fnScope_by (by decide +kernel)
theorem scCrowds : FnScope ["_law_kinds", "_law_size", "_law_found", "_law_x", "_law_rest"] ["_law_kinds", "_law_size"] (defScope sCrowds) := C8.fnScope_by (by decide +kernel)
theorem scLCost : FnScope ["_law_crowd_here", "_law_costs_here", "_law_kind", "_law_x"] ["_law_crowd_here", "_law_costs_here"] (defScope sLCost) := C8.fnScope_by (by decide +kernel)
theorem scIsCrowd : FnScope ["_law_kinds", "_law_value", "_law_x"] ["_law_kinds", "_law_value"] (defScope sIsCrowd) := C8.fnScope_by (by decide +kernel)
theorem scLLack : FnScope ["_law_crowd_here", "_law_batch", "_law_kind", "_law_x"] ["_law_crowd_here", "_law_batch"] (defScope sLLack) := C8.fnScope_by (by decide +kernel)
def spAny : DSp := fun ds O Φ _ => ∃ D bound, ds = [R D, I bound] ∧ 1 ≤ bound ∧ bound < 1073741824 ∧ DealOk O D ∧ ∀ r O', 0 ≤ r → r < bound → Draws O O' D → Φ (I r) O'
def spOf : DSp := fun ds O Φ _ => ∃ D xs, ds = [R D, .lst xs] ∧ xs ≠ [] ∧ xs.length ≤ 100000 ∧ DealOk O D ∧ ∀ x O', x ∈ xs → Draws O O' D → Φ x O'
section
variable {P : Program} {w : World} {K : PySem.W.Frag} {mg : Str → Option Value} {base : Heap} {T : List (Addr × Str)} {cB cC cR cQ C : Addr}
theorem isPs_ints59 (ns : List Int) : isPs 59 (ns.map I) = true := isPs_ints 59 ns
theorem cAny (t : Tx K mg) (d : Df K mg "_law_any" sAny ["_law_deal", "_law_bound"]) : Cal P w K mg base T CX0 "_law_any" 1 ["_law_deal", "_law_bound"] spAny := by
  refine calD d scAny (fun ds O Φ Ψ ⟨D, b, h, _⟩ => by rw [h]; rfl) fun f cdv A outer s H E H0 O ds Φ Ψ hr ⟨D, bound, e, hb1, hb2, hD, φ⟩ => ?_
  subst e
  have hu : (A.deeper (envOfC "_law_any" (defScope sAny) s.heap.objs.size f cdv)).units + 64 < cLine := hr.units
  obtain ⟨L, b0, ns0, D0⟩ := hD
  have step : ∀ {O1 : OHp} {b ns}, DealAt O1 D L b ns → (∀ a, a ≠ D → a ≠ L → O1 a = O a) → Draws O O1 D := fun h1 h2 => ⟨L, b0, ns0, D0, ⟨_, _, h1⟩, h2⟩
  -- _law_deal[0] != []
  have neE : ∀ {O1 : OHp} {b : Int} {ns : List Int} {y2 : Option Dat} {Ψ : Bool → OHp → Prop} {pa pb pc pd pe : Pos} {j : Nat}, DealAt O1 D L b ns → Ψ (!ns.isEmpty) O1 → WT ⟨T, H0, O, H⟩ (cxOf CX0 P w K mg base ["_law_deal", "_law_bound", "_law_rest"] "_law_any" (defScope sAny) f cdv A outer s H E).nox
      (.Compare (.Subscript (.Name "_law_deal" pa) (.Constant (.int 0) j pb) pc) [.NotEq] [.List [] pd] pe) [some (R D), some (I bound), y2] O1 Ψ := fun {O1 b ns y2 Ψ pa pb pc pd pe j} h hψ =>
    wt_cmp (op_neD hu) (wd_ixL (wd_nm 0 rfl (wd_int ⟨_, 0, R L, .own h.d, rfl, atI_nat (j := 0) rfl, wd_lst (wa_nil ⟨by simp, .inl (rr_neD (SeeP.own h.l (isPs_ints 59 ns) (okSs_ints ns)) seeP_nil ⟨_, rfl, by rw [eqv_nil]; rw [toPs_ints]; cases ns <;> exact hψ⟩)⟩)⟩)))
  refine wss_cons (ws_while PassesOwn.never (fun m Γ1 O1 => Γ1 = [some (R D), some (I bound), none] ∧ ∃ b ns, DealAt O1 D L b ns ∧ m = ns.length ∧ ∀ a, a ≠ D → a ≠ L → O1 a = O a) ns0.length ⟨rfl, b0, ns0, D0, rfl, fun _ _ _ => rfl⟩ ?_)
  rintro m Γ1 O1 ⟨rfl, b, ns, D1, rfl, hO⟩
  -- what is behind the loop
  have fin : WSs ⟨T, H0, O, H⟩ (cxOf CX0 P w K mg base ["_law_deal", "_law_bound", "_law_rest"] "_law_any" (defScope sAny) f cdv A outer s H E).nox ((defBody sAny).drop 1) [some (R D), some (I bound), none] O1 { nx := fun _ O' => Ret Φ (.v .non) O', rt := Ret Φ } := by
    refine wss_cons (ws_if (neE D1 ⟨fun q => ?_, fun q => wss_nil ?_⟩))
    · -- a cell
      cases hns : ns.reverse with
      | nil =>
        have : ns = [] := by simpa using hns
        rw [this] at q; cases q
      | cons x r =>
        have ens : ns = r.reverse ++ [x] := by have := congrArg List.reverse hns; simpa using this
        subst ens
        have hl : O1 L = some (.lst ((r.reverse ++ [x]).map I)) := D1.l
        refine wss_cons (ws_set 2 (wd_int1 t.int (wd_pop (wd_ixL (wd_nm 0 rfl (wd_int ⟨_, 0, R L, .own D1.d, rfl, atI_nat (j := 0) rfl, L, _, I x, rfl, hl, ?_, x, rfl, ?_⟩))))) scAny.nd)
        · simp
        have e1 : ((r.reverse ++ [x]).map I).dropLast = r.reverse.map I := by simp
        rw [e1]
        have D2 : (put O1 L (.lst (r.reverse.map I))) D = some (.lst [R L, I b]) := by rw [put_ne (Ne.symm D1.ne)]; exact D1.d
        have nl := D1.n
        rw [List.length_append, List.length_singleton] at nl
        refine wss_cons (ws_expr (wd_append (wd_ixL (wd_nm 0 rfl (wd_int ⟨_, 0, R L, .own D2, rfl, atI_nat (j := 0) rfl, L, rfl, ⟨_, put_same⟩, wd_op op_fdiv (wd_nm 2 rfl (wd_nm 1 rfl (rr_I ⟨by omega, hb2⟩ ⟨_, put_same, by simp at nl ⊢; omega, ?_⟩)))⟩)))))
        rw [put_put]
        refine wss_one (ws_ret (ret_val (wd_op op_mod (wd_nm 2 rfl (wd_nm 1 rfl (rr_I (show 0 < bound by omega) (φ _ _ (Int.emod_nonneg _ (by omega)) (Int.emod_lt_of_pos _ (by omega)) (step (b := b) (ns := r.reverse ++ [x / bound]) ⟨?_, ?_, D1.ne, ?_⟩ fun a h1 h2 => ?_))))))))
        · rw [put_ne (Ne.symm D1.ne)]; exact D1.d
        · rw [put_same]; simp
        · simp at nl ⊢; omega
        · rw [put_ne h2]; exact hO a h1 h2
    · -- the blend
      refine wss_cons (ws_asg _ (pg_sub pe_w pe_w set_list) (wd_op op_mod (wd_int1 t.int (wd_op op_add (wd_op op_mul (wd_ixL (wd_nm 0 rfl (wd_int ⟨[R L, I b], 1, I b, .own D1.d, rfl, atI_nat (j := 1) rfl, ?_⟩))))))))
      refine wd_int (rr_I (.inr ⟨by decide, by decide⟩) (wd_int (rr_I0 ⟨_, rfl, wd_int (rr_I (by decide) (rg_setL (wd_nm 0 rfl (wd_int ⟨D, 1, _, rfl, rfl, D1.d, by simp, ?_⟩))))⟩)))
      refine wss_one (ws_ret (ret_val (wd_op op_mod (wd_int1 t.int (wd_op op_fdiv (wd_ixL (wd_nm 0 rfl (wd_int ⟨_, 1, I ((b * 40693 + 71) % 2147483647), .own put_same, rfl, atI_nat (j := 1) rfl, ?_⟩))))))))
      refine wd_int (rr_I ⟨by decide, by decide⟩ ⟨_, rfl, wd_nm 1 rfl (rr_I (show 0 < bound by omega) (φ _ _ (Int.emod_nonneg _ (by omega)) (Int.emod_lt_of_pos _ (by omega)) (step (b := (b * 40693 + 71) % 2147483647) (ns := ns) ⟨put_same, ?_, D1.ne, D1.n⟩ fun a h1 h2 => ?_)))⟩)
      · rw [put_ne D1.ne]; exact D1.l
      · rw [put_ne h1]; exact hO a h1 h2
  refine wt_ww (ww_and (neE D1 ⟨fun _ => ⟨(fun z => nomatch z), fun _ => fin⟩, fun q => ww_and1 ?_⟩))
  cases hns : ns.reverse with
  | nil =>
    have : ns = [] := by simpa using hns
    rw [this] at q; cases q
  | cons x r =>
    have ens : ns = r.reverse ++ [x] := by have := congrArg List.reverse hns; simpa using this
    subst ens
    have hl : O1 L = some (.lst (r.reverse.map I ++ [I x])) := by have := D1.l; simpa using this
    have nl := D1.n
    refine wt_cmp op_eq (wd_ixL (wd_ixL (wd_nm 0 rfl (wd_int ⟨_, 0, R L, .own D1.d, rfl, atI_nat (j := 0) rfl, wd_un un_neg (wd_int (ru_neg ⟨_, -1, I x, .own hl, rfl, atI_last _ _, wd_int (rr_eq rfl ⟨_, rfl, fun q2 => ?_, fun q2 => fin⟩)⟩))⟩))))
    refine wss_one (ws_expr (wd_pop (wd_ixL (wd_nm 0 rfl (wd_int ⟨_, 0, R L, .own D1.d, rfl, atI_nat (j := 0) rfl, L, _, I x, rfl, hl, by simp, r.reverse.length, by simp, rfl, b, r.reverse, ⟨?_, ?_, D1.ne, ?_⟩, rfl, fun a h1 h2 => ?_⟩)))))
    · rw [put_ne (Ne.symm D1.ne)]; exact D1.d
    · rw [put_same]; simp
    · simp at nl ⊢; omega
    · rw [put_ne h2]; exact hO a h1 h2
theorem cOf (t : Tx K mg) (i0 : Cal P w K mg base T CX0 "_law_any" 1 ["_law_deal", "_law_bound"] spAny) (d : Df K mg "_law_of" sOf ["_law_deal", "_law_some"]) : Cal P w K mg base T CX0 "_law_of" 2 ["_law_deal", "_law_some"] spOf := by
  refine calD d scOf (fun ds O Φ Ψ ⟨D, xs, h, _⟩ => by rw [h]; rfl) fun f cdv A outer s H E H0 O ds Φ Ψ hr ⟨D, xs, e, hne, hl, hD, φ⟩ => ?_
  subst e
  have hp : 0 < xs.length := List.length_pos_iff.mpr hne
  refine wss_one (ws_ret (ret_val (wd_ixL (wd_nm 1 rfl (wd_call i0 hr (wa_two (wd_nm 0 rfl (wd_len t.len (wd_nm 1 rfl ⟨xs, .inl .lst, D, (xs.length : Int), rfl, by omega, by omega, hD, fun r O' h0 h1 dr => ?_⟩)))))))))
  obtain ⟨n, rfl⟩ : ∃ n : Nat, r = (n : Int) := ⟨r.toNat, by omega⟩
  have hlt : n < xs.length := by omega
  exact ⟨xs, (n : Int), xs[n], .lst, rfl, atI_ofNat (List.getElem?_eq_getElem hlt), φ _ _ (List.getElem_mem hlt) dr⟩
theorem en_get {a : List Int} {i : Nat} {d : Dat} (h : ∃ x, (a.map I)[i]? = some x ∧ d = .tup [I (i : Nat), x]) : ∃ x : Int, a[i]? = some x ∧ d = .tup [I (i : Nat), I x] := by
  obtain ⟨x, h1, e⟩ := h
  obtain ⟨n, q1, e1⟩ := ints_get h1
  exact ⟨n, q1, by rw [e, e1]⟩
theorem get_same {a b : List Int} (hl : a.length = b.length) {i : Nat} {x : Int} (h : a[i]? = some x) : ∃ y, b[i]? = some y := ⟨_, List.getElem?_eq_getElem (by have := (List.getElem?_eq_some_iff.mp h).1; omega)⟩
theorem cLWithin (t : Tx K mg) (d : Df K mg "_law_within" sLWithin ["_law_one", "_law_other"]) : Cal P w K mg base T CX0 "_law_within" 1 ["_law_one", "_law_other"] spWith := by
  refine calD d scLWithin (fun ds O Φ Ψ ⟨a, b, h, _⟩ => by rw [h]; rfl) fun f cdv A outer s H E H0 O ds Φ Ψ hr ⟨a, b, e, hl, hl2, φ⟩ => ?_
  subst e
  refine wss_one (ws_ret (ret_val (wd_all t.all (wd_lc [("_law_at", 2), ("_law_x", 3)] (gTup K 2 (gCons (gName 2) (gCons (gName 3) gNil))) (gw_tup (by decide) (by decide)) scLWithin.nd (blkOk_by (N := ["_law_one", "_law_other", "_law_at", "_law_x"]) (sc := defScope sLWithin) (by decide +kernel)) (fun s H C cl fp => pg2 2 3 scLWithin.nd) (wi_enumT t.enumerate (wd_name 0 ⟨a.map I, rfl, ?_⟩))))))
  refine lcw_map ((List.zipWith (fun x y : Int => decide (x ≤ y)) a b).map B) (by simp [hl]) (by simp; omega) trivial (fun i d hi hy => ?_) (.inl ⟨_, .lst, ?_⟩)
  · obtain ⟨x, h1, e⟩ := en_get hy
    subst e
    obtain ⟨y, h2⟩ := get_same hl h1
    exact rg2 ⟨rfl, fun s0 H1 C cl fp => wd_cmp op_le (wd_nm 3 rfl (wd_ixT (wd_nm 1 rfl (wd_nm 2 rfl ⟨b.map I, (i : Int), I y, rfl, rfl, atI_ofNat (mapI_get h2), rr_I0 ⟨by rw [List.getElem?_map, zw_get h1 h2]; rfl, rfl⟩⟩))))⟩
  · rw [all_zip]; exact φ
theorem cLLess (t : Tx K mg) (d : Df K mg "_law_less" sLLess ["_law_one", "_law_other"]) : Cal P w K mg base T CX0 "_law_less" 1 ["_law_one", "_law_other"] spLess := by
  refine calD d scLLess (fun ds O Φ Ψ ⟨a, b, h, _⟩ => by rw [h]; rfl) fun f cdv A outer s H E H0 O ds Φ Ψ hr ⟨a, b, e, hl, hl2, φ⟩ => ?_
  subst e
  refine wss_one (ws_ret (ret_val (wd_tupleOf t.tuple (wd_lc [("_law_at", 2), ("_law_x", 3)] (gTup K 2 (gCons (gName 2) (gCons (gName 3) gNil))) (gw_tup (by decide) (by decide)) scLLess.nd (blkOk_by (N := ["_law_one", "_law_other", "_law_at", "_law_x"]) (sc := defScope sLLess) (by decide +kernel)) (fun s H C cl fp => pg2 2 3 scLLess.nd) (wi_enumT t.enumerate (wd_name 0 ⟨a.map I, rfl, ?_⟩))))))
  refine lcw_map ((subC a b).map I) (by simp [subC, hl]) (by simp; omega) trivial (fun i d hi hy => ?_) (.inl ⟨_, .inl .lst, φ⟩)
  obtain ⟨x, h1, e⟩ := en_get hy
  subst e
  obtain ⟨y, h2⟩ := get_same hl h1
  exact rg2 ⟨rfl, fun s0 H1 C cl fp => wd_op op_sub (wd_nm 3 rfl (wd_ixT (wd_nm 1 rfl (wd_nm 2 rfl ⟨b.map I, (i : Int), I y, rfl, rfl, atI_ofNat (mapI_get h2), rr_I0 ⟨mapI_get (zw_get h1 h2), rfl⟩⟩))))⟩
theorem cLMore (t : Tx K mg) (d : Df K mg "_law_more" sLMore ["_law_one", "_law_other"]) : Cal P w K mg base T CX0 "_law_more" 1 ["_law_one", "_law_other"] spMore := by
  refine calD d scLMore (fun ds O Φ Ψ ⟨a, b, h, _⟩ => by rw [h]; rfl) fun f cdv A outer s H E H0 O ds Φ Ψ hr ⟨a, b, e, hl, hl2, φ⟩ => ?_
  subst e
  refine wss_one (ws_ret (ret_val (wd_tupleOf t.tuple (wd_lc [("_law_at", 2), ("_law_x", 3)] (gTup K 2 (gCons (gName 2) (gCons (gName 3) gNil))) (gw_tup (by decide) (by decide)) scLMore.nd (blkOk_by (N := ["_law_one", "_law_other", "_law_at", "_law_x"]) (sc := defScope sLMore) (by decide +kernel)) (fun s H C cl fp => pg2 2 3 scLMore.nd) (wi_enumT t.enumerate (wd_name 0 ⟨a.map I, rfl, ?_⟩))))))
  refine lcw_map ((addC a b).map I) (by simp [addC, hl]) (by simp; omega) trivial (fun i d hi hy => ?_) (.inl ⟨_, .inl .lst, φ⟩)
  obtain ⟨x, h1, e⟩ := en_get hy
  subst e
  obtain ⟨y, h2⟩ := get_same hl h1
  exact rg2 ⟨rfl, fun s0 H1 C cl fp => wd_op op_add (wd_nm 3 rfl (wd_ixT (wd_nm 1 rfl (wd_nm 2 rfl ⟨b.map I, (i : Int), I y, rfl, rfl, atI_ofNat (mapI_get h2), rr_I0 ⟨mapI_get (zw_get h1 h2), rfl⟩⟩))))⟩
def spLCost : DSp := sp2 fun a b => I (dot a b)
theorem cLCost (t : Tx K mg) (d : Df K mg "_law_cost" sLCost ["_law_crowd_here", "_law_costs_here"]) : Cal P w K mg base T CX0 "_law_cost" 1 ["_law_crowd_here", "_law_costs_here"] spLCost := by
  refine calD d scLCost (fun ds O Φ Ψ ⟨a, b, h, _⟩ => by rw [h]; rfl) fun f cdv A outer s H E H0 O ds Φ Ψ hr ⟨a, b, e, hl, hl2, hb, φ⟩ => ?_
  subst e
  refine wss_one (ws_ret (ret_val (wd_sum t.sum (wd_lc [("_law_kind", 2), ("_law_x", 3)] (gTup K 2 (gCons (gName 2) (gCons (gName 3) gNil))) (gw_tup (by decide) (by decide)) scLCost.nd (blkOk_by (N := ["_law_crowd_here", "_law_costs_here", "_law_kind", "_law_x"]) (sc := defScope sLCost) (by decide +kernel)) (fun s H C cl fp => pg2 2 3 scLCost.nd) (wi_enumT t.enumerate (wd_name 0 ⟨a.map I, rfl, ?_⟩))))))
  refine lcw_map ((List.zipWith (· * ·) a b).map I) (by simp [hl]) (by simp; omega) trivial (fun i d hi hy => ?_) (.inl ⟨_, .lst, φ⟩)
  obtain ⟨x, h1, e⟩ := en_get hy
  subst e
  obtain ⟨y, h2⟩ := get_same hl h1
  have hy := hb y (List.mem_of_getElem? h2)
  exact rg2 ⟨rfl, fun s0 H1 C cl fp => wd_op op_mul (wd_nm 3 rfl (wd_ixT (wd_nm 1 rfl (wd_nm 2 rfl ⟨b.map I, (i : Int), I y, rfl, rfl, atI_ofNat (mapI_get h2), rr_I (.inr ⟨by omega, by omega⟩) ⟨mapI_get (zw_get h1 h2), rfl⟩⟩))))⟩
theorem cLLack (t : Tx K mg) (d : Df K mg "_law_lacking" sLLack ["_law_crowd_here", "_law_batch"]) : Cal P w K mg base T CX0 "_law_lacking" 1 ["_law_crowd_here", "_law_batch"] spLack := by
  refine calD d scLLack (fun ds O Φ Ψ ⟨a, b, h, _⟩ => by rw [h]; rfl) fun f cdv A outer s H E H0 O ds Φ Ψ hr ⟨a, b, e, hl, hl2, hb, φ⟩ => ?_
  subst e
  refine wss_one (ws_ret (ret_val (wd_tupleOf t.tuple (wd_lc [("_law_kind", 2), ("_law_x", 3)] (gTup K 2 (gCons (gName 2) (gCons (gName 3) gNil))) (gw_tup (by decide) (by decide)) scLLack.nd (blkOk_by (N := ["_law_crowd_here", "_law_batch", "_law_kind", "_law_x"]) (sc := defScope sLLack) (by decide +kernel)) (fun s H C cl fp => pg2 2 3 scLLack.nd) (wi_enumT t.enumerate (wd_name 0 ⟨a.map I, rfl, ?_⟩))))))
  refine lcw_map ((lackC a b).map I) (by simp [lackC, hl]) (by simp; omega) trivial (fun i d hi hy => ?_) (.inl ⟨_, .inl .lst, φ⟩)
  obtain ⟨x, h1, e⟩ := en_get hy
  subst e
  obtain ⟨y, h2⟩ := get_same hl h1
  refine rg2 ⟨rfl, fun s0 H1 C cl fp => wd_max2 t.max (wd_op op_sub (wd_nm 3 rfl (wd_ixT (wd_nm 1 rfl (wd_nm 2 rfl ⟨b.map I, (i : Int), I y, rfl, rfl, atI_ofNat (mapI_get h2), rr_I0 (wd_int ⟨x - y, 0, rfl, rfl, ?_, rfl⟩)⟩)))))⟩
  have el : ((lackC a b).map I)[i]? = some (I (x - (if y < x then y else x))) := mapI_get (zw_get h1 h2)
  rw [el]
  have : (x - (if y < x then y else x)) = (if (0 : Int) > x - y then 0 else x - y) := by split <;> split <;> omega
  rw [this]
def spIsCrowd : DSp := fun ds O Φ _ => ∃ (k : Nat) (c : List Int), ds = [I k, tI c] ∧ c.length = k ∧ k ≤ 1000 ∧ (∀ x ∈ c, 0 ≤ x) ∧ Φ (B true) O
theorem cIsCrowd (t : Tx K mg) (d : Df K mg "_law_is_crowd" sIsCrowd ["_law_kinds", "_law_value"]) : Cal P w K mg base T CX0 "_law_is_crowd" 1 ["_law_kinds", "_law_value"] spIsCrowd := by
  refine calD d scIsCrowd (fun ds O Φ Ψ ⟨a, b, h, _⟩ => by rw [h]; rfl) fun f cdv A outer s H E H0 O ds Φ Ψ hr ⟨k, c, e, hl, hl2, h0, φ⟩ => ?_
  subst e
  refine wss_cons (ws_if (wt_ww (ww_or (wt_not (wt_val (wd_isi t.isinstance (wd_name 1 (wd_ty (T := "tuple") t.tuple (by decide +kernel) ⟨"tuple", "tuple", true, rfl, rfl, by decide +kernel, true, rfl, (fun z => by cases z), fun _ => ?_⟩))))))))
  refine ww_or1 (wt_cmp op_ne (wd_len t.len (wd_nm 1 rfl ⟨_, .inr rfl, wd_nm 0 rfl (rr_ne rfl ⟨_, rfl, fun z => ?_, fun _ => wss_nil ?_⟩)⟩)))
  · simp [hl] at z
  refine wss_one (ws_ret (ret_val (wd_all t.all (wd_lc [("_law_x", 2)] (gName 2) (gw_name (by decide)) scIsCrowd.nd (blkOk_by (N := ["_law_kinds", "_law_value", "_law_x"]) (sc := defScope sIsCrowd) (by decide +kernel)) (fun s H C cl fp => pg_name scIsCrowd.nd rfl (.inl rfl) (.inr rfl)) (wi_tup (wd_name 1 ⟨c.map I, rfl, ?_⟩))))))
  refine lcw_map ((c.map fun _ => true).map B) (by simp) (by simp; omega) trivial (fun i d hi hy => ?_) (.inl ⟨c.map fun _ => true, .lst, ?_⟩)
  · obtain ⟨x, h1, e⟩ := ints_get hy
    subst e
    have hx := h0 x (List.mem_of_getElem? h1)
    refine rg_name ⟨rfl, fun s0 H1 C cl fp => wd_and (wd_isi t.isinstance (wd_nm 2 rfl (wd_ty (T := "int") t.int (by decide +kernel) ⟨"int", "int", true, rfl, rfl, by decide +kernel, true, rfl, (fun z => by cases z), fun _ => wd_and (wd_not (wd_isi t.isinstance (wd_nm 2 rfl (wd_ty (T := "bool") t.bool (by decide +kernel) ⟨"int", "bool", false, rfl, rfl, by decide +kernel, false, rfl, true, rfl, (fun z => by cases z), fun _ => wd_one (wd_cmp op_ge (wd_nm 2 rfl (wd_int (rr_I0 ⟨?_, rfl⟩))))⟩))))⟩)))⟩
    rw [List.map_map, List.getElem?_map, h1, decide_eq_true hx]
    rfl
  · have : (c.map fun _ => true).all id = true := by simp
    rw [this]; exact φ
/-! ### the deal -/
def spDraw : DSp := fun ds O Φ _ => ∃ ns : List Int, ds = [.scr ns, I 22] ∧ ns.length ≤ 63 ∧ ∀ D O', DealOk O' D → Φ (R D) O'
theorem cDraw (t : Tx K mg) (d : Df K mg "_law_draw" sDraw ["_law_script", "_law_salt"]) : Cal P w K mg base T CX0 "_law_draw" 1 ["_law_script", "_law_salt"] spDraw := by
  refine calD d scDraw (fun ds O Φ Ψ ⟨a, h, _⟩ => by rw [h]; rfl) fun f cdv A outer s H E H0 O ds Φ Ψ hr ⟨ns, e, hl, φ⟩ => ?_
  subst e
  have hlt : (cutD ns none (some (48 : Int))).length ≤ 63 := by
    have : cutD ns none (some ((48 : Nat) : Int)) = ns.take 48 := cutD_to ns 48
    have e : cutD ns none (some (48 : Int)) = ns.take 48 := this
    rw [e, List.length_take]; omega
  refine wss_cons (ws_setLc 2 [("_law_cell", 4)] (gName 4) (gw_name (by decide)) scDraw.nd (blkOk_by (N := ["_law_script", "_law_salt", "_law_cells", "_law_blend", "_law_cell"]) (sc := defScope sDraw) (by decide +kernel)) (fun s H C cl fp => pg_name scDraw.nd rfl (.inl rfl) (.inr rfl)) rfl
    (wi_list (wd_slice sl_list (wd_nm 0 rfl (wo_none (wo_some (wd_int ⟨48, rfl, rsl_scr (.inl ⟨(cutD ns none (some 48)).map I, .lst, ?_⟩)⟩)))))))
  refine lcw_map (((cutD ns none (some 48)).map fun n => if n < 0 then -n else n).map I) (by simp) (by simp; omega) .lst (fun i d hi hy => ?_) (.inl ?_)
  · obtain ⟨x, h1, e⟩ := ints_get hy
    subst e
    exact rg_name ⟨rfl, fun s0 H1 C cl fp => wd_abs t.abs (wd_int1 t.int (wd_nm 4 rfl ⟨x, rfl, x, rfl, by rw [List.map_map, List.getElem?_map, h1]; rfl, rfl⟩))⟩
  generalize hcs : (cutD ns none (some 48)).map (fun n => if n < 0 then -n else n) = cs
  have hcl : cs.length ≤ 63 := by rw [← hcs, List.length_map]; exact hlt
  refine wss_cons (ws_set 3 (wd_op op_add (wd_int (wd_op op_mul (wd_int (wd_nm 1 rfl (rr_I (.inl ⟨by decide, by decide⟩) (rr_I0 ?_))))))) scDraw.nd)
  refine wss_cons (ws_for PassesOwn.never (pg_name (i := 4) scDraw.nd rfl (.inl rfl) (.inr rfl)) (wi_list (wd_nm 2 rfl ⟨cs.map I, .lst, fun i Γ' O' => (∃ (b : Int) (y4 : Option Dat), Γ' = [some (.scr ns), some (I 22), some (.lst (cs.map I)), some (I b), y4]) ∧ O' = O, ⟨⟨_, _, rfl⟩, rfl⟩, fun _ _ _ _ => .lst, ?_, ?_⟩)))
  · rintro i d2 Γ' O' hi ⟨⟨b, y4, rfl⟩, rfl⟩ hy
    obtain ⟨x, h1, e⟩ := ints_get hy
    subst e
    refine rg_name (wss_one (ws_set 3 (wd_op op_mod (wd_int1 t.int (wd_op op_add (wd_op op_add (wd_op op_mul (wd_nm 3 rfl (wd_int (rr_I (.inr ⟨by decide, by decide⟩) ?_))))))) ) scDraw.nd))
    exact wd_op op_mod (wd_nm 4 rfl (wd_int (rr_I (by decide) (rr_I0 (wd_int (rr_I0 ⟨_, rfl, wd_int (rr_I (by decide) ⟨⟨_, _, rfl⟩, rfl⟩)⟩))))))
  · rintro Γ' O' ⟨⟨b, y4, rfl⟩, rfl⟩
    refine wss_one (ws_ret (wd_lst (wa_two (wd_rev (wd_lc [("_law_cell", 4)] (gName 4) (gw_name (by decide)) scDraw.nd (blkOk_by (N := ["_law_script", "_law_salt", "_law_cells", "_law_blend", "_law_cell"]) (sc := defScope sDraw) (by decide +kernel)) (fun s H C cl fp => pg_name scDraw.nd rfl (.inl rfl) (.inr rfl)) (wi_list (wd_nm 2 rfl ⟨cs.map I, .lst, ?_⟩)))))))
    refine lcw_filter (fun i => (cs[i]?).bind fun x => if decide ((10 : Int) ^ 18 ≤ x) = true then some (I x) else none) (by simp; omega) .lst (fun i d hi hy => ?_) (.inl ?_)
    · obtain ⟨x, h1, e⟩ := ints_get hy
      subst e
      refine rg_name ⟨rfl, fun s0 H1 C cl fp => wts_one (wt_cmp op_ge (wd_nm 4 rfl (wd_op op_pow (wd_int (wd_int (rr_I ⟨by decide, by decide, by decide⟩ (rr_I0 ⟨_, rfl, rfl, fun hb s0 H1 C cl fp => wd_nm 4 rfl ⟨?_, rfl⟩, fun hb => ?_⟩)))))))⟩
      · rw [h1]
        have hb : decide ((10 : Int) ^ 18 ≤ x) = true := hb
        simp only [Option.bind_some, hb, if_true]
      · rw [h1]
        have hb : decide ((10 : Int) ^ 18 ≤ x) = false := hb
        simp only [Option.bind_some, hb]; rfl
    · rw [List.length_map, filterMap_range]
      have h2 : (cs.filter fun x => decide ((10 : Int) ^ 18 ≤ x)).length ≤ 63 := Nat.le_trans (List.length_filter_le _ _) hcl
      refine ⟨_, .lst, .inr fun L hL => wd_nm 3 rfl ⟨by simp, .inr fun D hD => Ret.same (φ D _ ⟨L, b, (cs.filter fun x => decide ((10 : Int) ^ 18 ≤ x)).reverse, put_same, ?_, fun z => ?_, ?_⟩)⟩⟩
      · rw [put_ne (fun z => by rw [← z, put_same] at hD; cases hD), put_same, List.map_reverse]
      · rw [← z, put_same] at hD; cases hD
      · rw [List.length_reverse]; omega
/-! ### all crowds of a size -/
def crowdsL : Nat → Nat → List (List Int)
  | 0, _ => []
  | 1, n => [[(n : Int)]]
  | k + 2, n => (List.range (n + 1)).flatMap fun x => (crowdsL (k + 1) (n - x)).map ((x : Int) :: ·)
theorem crowdsL_len : ∀ k n : Nat, (crowdsL k n).length ≤ (n + 1) ^ k
  | 0, n => by simp [crowdsL]
  | 1, n => by simp [crowdsL]
  | k + 2, n => by
    have h : ∀ l : List Nat, (∀ x ∈ l, x ≤ n) → (l.flatMap fun x => (crowdsL (k + 1) (n - x)).map ((x : Int) :: ·)).length ≤ l.length * (n + 1) ^ (k + 1) := by
      intro l
      induction l with
      | nil => intro _; simp
      | cons x l ih =>
        intro hx
        have i1 := ih fun y hy => hx y (List.mem_cons_of_mem _ hy)
        have i2 := crowdsL_len (k + 1) (n - x)
        have i3 : (n - x + 1) ^ (k + 1) ≤ (n + 1) ^ (k + 1) := Nat.pow_le_pow_left (by omega) _
        rw [List.flatMap_cons, List.length_append, List.length_map, List.length_cons, Nat.add_mul, Nat.one_mul]
        omega
    have := h (List.range (n + 1)) fun x hx => by have := List.mem_range.mp hx; omega
    rw [List.length_range] at this
    show (crowdsL (k + 2) n).length ≤ _
    rw [Nat.pow_succ, Nat.mul_comm]
    exact this
end
end DL

set_option Elab.async false
set_option linter.all false
set_option maxRecDepth 100000
set_option maxHeartbeats 1000000
/-! PL2: relaxation, plain; covering exists -/
namespace DL
open L2
/-! ### covering is answered -/
theorem all_le_zero {c : List Int} (hn : ∀ x ∈ c, 0 ≤ x) (h : ¬ ∃ j, 0 < g0 c j) : ∀ j, g0 c j ≤ 0 := fun j => by
  by_cases h2 : 0 < g0 c j
  · exact absurd ⟨j, h2⟩ h
  · omega
theorem least_ex : ∀ (fs : List (Int × List Nat)), fs ≠ [] → ∃ e ∈ fs, ∀ e' ∈ fs, e.1 ≤ e'.1
  | [], h => absurd rfl h
  | [e], _ => ⟨e, List.mem_cons_self, fun e' h => by simp at h; rw [h]; exact Int.le_refl _⟩
  | e :: e2 :: fs, _ => by
    obtain ⟨m, hm, q⟩ := least_ex (e2 :: fs) (by simp)
    by_cases h : e.1 ≤ m.1
    · exact ⟨e, List.mem_cons_self, fun e' he => by
        rcases List.mem_cons.mp he with z | z
        · rw [z]; exact Int.le_refl _
        · exact Int.le_trans h (q e' z)⟩
    · exact ⟨m, List.mem_cons_of_mem _ hm, fun e' he => by
        rcases List.mem_cons.mp he with z | z
        · rw [z]; omega
        · exact q e' z⟩
theorem covOK_ex {k : Nat} {bs : List (List Int)} {costs : List Int} (B : BatOk k bs) (hcs : ∀ x ∈ costs, 0 ≤ x) : ∀ (n : Nat) (c : List Int), c.sum ≤ n → c.length = k → (∀ x ∈ c, 0 ≤ x) → ∃ r, CovOK bs costs c r := by
  intro n
  induction n with
  | zero =>
    intro c hs hc hn
    refine ⟨some (0, []), covOK_zero B hcs hn fun j => ?_⟩
    have := g0_le_sum hn j
    omega
  | succ n ih =>
    intro c hs hc hn
    by_cases hz : ∃ j, 0 < g0 c j
    · obtain ⟨j, hj⟩ := hz
      have build : ∀ i, ∃ fs, Found bs costs c j i fs := by
        intro i
        induction i with
        | zero => exact ⟨[], fun e he => by simp at he, fun at_ h => by omega⟩
        | succ i ih2 =>
          obtain ⟨fs, hf⟩ := ih2
          by_cases h1 : i < bs.length
          · by_cases h2 : 0 < g0 (bat bs i) j
            · have hb := B.b _ (bat_mem h1)
              have hl := lack_lt j (a := c) (b := bat bs i) (by rw [hc, hb.1]) hn hb.2.1 hj h2
              obtain ⟨r, hr⟩ := ih (lackC c (bat bs i)) (by omega) (by rw [lack_len (by rw [hc, hb.1]), hc]) lack_nn
              cases r with
              | none => exact ⟨fs, found_skip hf fun _ _ => hr⟩
              | some e => exact ⟨_, found_add B hc hn hf hj h1 h2 (m := e.1) (run := e.2) hr⟩
            · exact ⟨fs, found_skip hf fun _ h => absurd h h2⟩
          · exact ⟨fs, found_skip hf fun h => absurd h h1⟩
      obtain ⟨fs, hf⟩ := build bs.length
      by_cases he : fs = []
      · subst he; exact ⟨none, found_none B hc hj hf⟩
      · obtain ⟨e, h1, h2⟩ := least_ex fs he
        exact ⟨some e, found_some B hc hj hf h1 h2⟩
    · exact ⟨some (0, []), covOK_zero B hcs hn (all_le_zero hn hz)⟩
/-! ### lacking by a run -/
def lk (bs : List (List Int)) (c : List Int) (run : List Nat) (j : Nat) : Int := if colRun bs j run < g0 c j then g0 c j - colRun bs j run else 0
theorem lk_snoc {bs : List (List Int)} {c d : List Int} {run : List Nat} {i : Nat} {k : Nat} (hd : d.length = k) (hb : (bat bs i).length = k) (hbn : ∀ x ∈ bat bs i, 0 ≤ x) (h : ∀ j, g0 d j = lk bs c run j) (j : Nat) : g0 (lackC d (bat bs i)) j = lk bs c (i :: run) j := by
  rw [lack_g0 (by rw [hd, hb]), h j]
  unfold lk
  rw [col_cons]
  have := g0_nn hbn j
  split <;> split <;> split <;> omega
theorem lack_strict {d b : List Int} (hl : d.length = b.length) (hd : ∀ x ∈ d, 0 ≤ x) (hb : ∀ x ∈ b, 0 ≤ x) (hne : lackC d b ≠ d) : (lackC d b).sum + 1 ≤ d.sum := by
  by_cases h : ∃ j, 0 < g0 d j ∧ 0 < g0 b j
  · obtain ⟨j, h1, h2⟩ := h
    exact lack_lt j hl hd hb h1 h2
  · refine absurd (ext_g0 (by rw [lack_len hl]) fun j _ => ?_) hne
    rw [lack_g0 hl]
    have h1 := g0_nn hd j
    have h2 := g0_nn hb j
    by_cases g1 : 0 < g0 d j
    · have : ¬ 0 < g0 b j := fun z => h ⟨j, g1, z⟩
      split <;> omega
    · split <;> omega
/-! ### the best so far -/
def Edge (kvs : DD) (costs d : List Int) (v : Int) (b : List Int) : Prop := lackC d b = d ∨ ∃ v', valD kvs (lackC d b) = some (I v') ∧ v' ≤ v + dot b costs
structure Bst (k : Nat) (bs : List (List Int)) (costs c : List Int) (kvs : DD) (pend : List Int → Prop) : Prop where
  v : ∀ kv ∈ kvs, ∃ v run, kv.2 = I v ∧ okIdx bs run ∧ v = costRun bs costs run ∧ ∀ j, g0 kv.1 j = lk bs c run j
  b : ∀ kv ∈ kvs, kv.1.length = k ∧ ∀ x ∈ kv.1, 0 ≤ x ∧ x < 6
  nd : (kvs.map (·.1)).Nodup
  e : ∃ v, valD kvs c = some (I v) ∧ v ≤ 0
  cl : ∀ d v, valD kvs d = some (I v) → ¬ pend d → ∀ b ∈ bs, Edge kvs costs d v b
theorem Bst.len {k : Nat} {bs : List (List Int)} {costs c : List Int} {kvs : DD} {pend : List Int → Prop} (h : Bst k bs costs c kvs pend) (hk : k ≤ 3) : kvs.length < 100000 := by
  have := box_len (M := 6) (k := k) h.nd fun c hc => by
    obtain ⟨kv, hkv, rfl⟩ := List.mem_map.mp hc
    exact h.b kv hkv
  rw [List.length_map] at this
  have h2 : 6 ^ k ≤ 6 ^ 3 := Nat.pow_le_pow_right (by decide) hk
  omega
theorem Bst.val {k : Nat} {bs : List (List Int)} {costs c : List Int} {kvs : DD} {pend : List Int → Prop} (h : Bst k bs costs c kvs pend) {d : List Int} {w : Dat} (hd : valD kvs d = some w) : ∃ v, w = I v := by
  obtain ⟨v, _, e, _⟩ := h.v _ (valD_mem hd)
  exact ⟨v, e⟩
theorem Bst.init {k : Nat} {bs : List (List Int)} {costs c : List Int} (hc : c.length = k) (hx : ∀ x ∈ c, 0 ≤ x ∧ x < 6) : Bst k bs costs c [(c, I 0)] (fun d => d = c) := by
  refine ⟨fun kv h => ?_, fun kv h => ?_, by simp, ⟨0, by simp [valD], Int.le_refl _⟩, fun d v hd hp => ?_⟩
  · have h := List.mem_singleton.mp h
    subst h
    refine ⟨0, [], rfl, fun i hi => by simp at hi, by simp [costRun], fun j => ?_⟩
    have := g0_nn (fun x h => (hx x h).1) j
    unfold lk
    simp only [colRun, List.map_nil, List.sum_nil]
    split <;> omega
  · have h := List.mem_singleton.mp h
    subst h
    exact ⟨hc, hx⟩
  · have := valD_mem hd
    have := List.mem_singleton.mp this
    injection this with h1 _
    exact absurd h1 hp
theorem Bst.weak {k : Nat} {bs : List (List Int)} {costs c : List Int} {kvs : DD} {p q : List Int → Prop} (h : Bst k bs costs c kvs p) (i : ∀ d, ¬ q d → ¬ p d ∨ ∀ v, valD kvs d = some (I v) → ∀ b ∈ bs, Edge kvs costs d v b) : Bst k bs costs c kvs q :=
  ⟨h.v, h.b, h.nd, h.e, fun d v hd hq b hb => (i d hq).elim (fun g => h.cl d v hd g b hb) fun g => g v hd b hb⟩
theorem edge_put {kvs : DD} {costs d r : List Int} {v x : Int} {b : List Int} (h : Edge kvs costs d v b) (hr : valD kvs r = none ∨ ∃ w, valD kvs r = some (I w) ∧ x ≤ w) : Edge (putD kvs r (I x)) costs d v b := by
  rcases h with h | ⟨v', h1, h2⟩
  · exact .inl h
  · by_cases e : lackC d b = r
    · refine .inr ⟨x, by rw [e, valD_put], ?_⟩
      rcases hr with g | ⟨w, g1, g2⟩
      · rw [e, g] at h1; cases h1
      · rw [e, g1] at h1
        have h1 := Option.some.inj h1
        injection h1 with h1
        injection h1 with h1
        omega
    · exact .inr ⟨v', by rw [valD_put_ne _ _ e]; exact h1, h2⟩
theorem Bst.put {k : Nat} {bs : List (List Int)} {costs c : List Int} {kvs : DD} {pend : List Int → Prop} (B : BatOk k bs) (h : Bst k bs costs c kvs pend) {need : List Int} {v : Int} {i : Nat} (hi : i < bs.length) (hv : valD kvs need = some (I v))
    (hr : valD kvs (lackC need (bat bs i)) = none ∨ ∃ w, valD kvs (lackC need (bat bs i)) = some (I w) ∧ v + dot (bat bs i) costs ≤ w) :
    Bst k bs costs c (putD kvs (lackC need (bat bs i)) (I (v + dot (bat bs i) costs))) (fun d => pend d ∨ d = lackC need (bat bs i)) := by
  obtain ⟨b1, b2, b3⟩ := B.b _ (bat_mem hi)
  obtain ⟨n1, n2⟩ := h.b _ (valD_mem hv)
  have nl : need.length = k := n1
  have rl : (lackC need (bat bs i)).length = k := by rw [lack_len (by rw [nl, b1]), nl]
  refine ⟨fun kv hk => ?_, fun kv hk => ?_, putD_nodup h.nd, ?_, fun d w hd hp b hb => ?_⟩
  · rcases putD_mem hk with e | e
    · subst e
      obtain ⟨v0, run, e1, e2, e3, e4⟩ := h.v _ (valD_mem hv)
      injection e1 with e1
      injection e1 with e1
      refine ⟨_, i :: run, rfl, fun a ha => (List.mem_cons.mp ha).elim (fun e => e ▸ hi) fun e => e2 a e, by rw [cost_cons, e1, e3]; omega, lk_snoc nl b1 b2 e4⟩
    · exact h.v kv e
  · rcases putD_mem hk with e | e
    · subst e
      exact ⟨rl, lack_bd (by rw [nl, b1]) b2 n2⟩
    · exact h.b kv e
  · obtain ⟨w, w1, w2⟩ := h.e
    by_cases e : c = lackC need (bat bs i)
    · refine ⟨v + dot (bat bs i) costs, by rw [← e, valD_put], ?_⟩
      rcases hr with g | ⟨w', g1, g2⟩
      · rw [← e, w1] at g; cases g
      · rw [← e, w1] at g1
        have g1 := Option.some.inj g1
        injection g1 with g1
        injection g1 with g1
        omega
    · exact ⟨w, by rw [valD_put_ne _ _ e]; exact w1, w2⟩
  · have hne : d ≠ lackC need (bat bs i) := fun z => hp (.inr z)
    rw [valD_put_ne _ _ hne] at hd
    exact edge_put (h.cl d w hd (fun z => hp (.inl z)) b hb) hr
/-- nothing pends: no covering run is cheaper -/
theorem Bst.low {k : Nat} {bs : List (List Int)} {costs c : List Int} {kvs : DD} (B : BatOk k bs) (hcs : ∀ x ∈ costs, 0 ≤ x) (hc : c.length = k) (h : Bst k bs costs c kvs (fun _ => False)) : ∀ run, okIdx bs run → ∃ d v, valD kvs d = some (I v) ∧ d.length = k ∧ v ≤ costRun bs costs run ∧ ∀ j, g0 d j = lk bs c run j
  | [], _ => by
    obtain ⟨v, h1, h2⟩ := h.e
    obtain ⟨a1, a2⟩ := h.b _ (valD_mem h1)
    refine ⟨c, v, h1, hc, by simpa [costRun] using h2, fun j => ?_⟩
    have : 0 ≤ g0 c j := g0_nn (fun x g => (a2 x g).1) j
    unfold lk
    simp only [colRun, List.map_nil, List.sum_nil]
    split <;> omega
  | i :: run, hi => by
    obtain ⟨d, v, h1, h2, h3, h4⟩ := Bst.low B hcs hc h run fun a ha => hi a (List.mem_cons_of_mem _ ha)
    have hlt := hi i List.mem_cons_self
    obtain ⟨b1, b2, b3⟩ := B.b _ (bat_mem hlt)
    have nx := lk_snoc h2 b1 b2 h4
    have hdn := dot_nn b2 hcs
    rcases h.cl d v h1 id _ (bat_mem hlt) with e | ⟨v', e1, e2⟩
    · exact ⟨d, v, h1, h2, by rw [cost_cons]; omega, fun j => by rw [← nx j, e]⟩
    · exact ⟨_, v', e1, by rw [lack_len (by rw [h2, b1]), h2], by rw [cost_cons]; omega, nx⟩
theorem zero_of {k : Nat} {d : List Int} (hd : d.length = k) (h : ∀ j, g0 d j = 0) : d = List.replicate k 0 := ext_g0 (by simp [hd]) fun j _ => by rw [h j, g0_zero]
theorem lk_cov {bs : List (List Int)} {c : List Int} {run : List Nat} : (∀ j, lk bs c run j = 0) ↔ ∀ j, g0 c j ≤ colRun bs j run := by
  constructor
  · intro h j
    have := h j
    unfold lk at this
    split at this <;> omega
  · intro h j
    have := h j
    unfold lk
    split <;> omega
/-- the answer agrees with covering -/
theorem Bst.ans {k : Nat} {bs : List (List Int)} {costs c : List Int} {kvs : DD} (B : BatOk k bs) (hcs : ∀ x ∈ costs, 0 ≤ x) (hc : c.length = k) (h : Bst k bs costs c kvs (fun _ => False)) {r : Option (Int × List Nat)} (hr : CovOK bs costs c r) :
    valD kvs (List.replicate k 0) = r.map fun e => I e.1 := by
  cases r with
  | none =>
    cases e : valD kvs (List.replicate k 0) with
    | none => rfl
    | some w =>
      obtain ⟨v, run, e1, e2, e3, e4⟩ := h.v _ (valD_mem e)
      exact absurd ⟨e2, lk_cov.mp fun j => by rw [← e4 j]; exact g0_zero k j⟩ (hr run)
  | some m =>
    obtain ⟨⟨c1, c2⟩, c3, c4, c5⟩ := hr
    obtain ⟨d, v, h1, h2, h3, h4⟩ := h.low B hcs hc m.2 c1
    have hz := zero_of h2 fun j => by rw [h4 j]; exact lk_cov.mpr c2 j
    subst hz
    rw [h1]
    obtain ⟨v', run, e1, e2, e3, e4⟩ := h.v _ (valD_mem h1)
    injection e1 with e1
    injection e1 with e1
    have hcv : Cov bs c run := ⟨e2, lk_cov.mp fun j => by rw [← e4 j]; exact g0_zero k j⟩
    have := c5 run hcv
    have : v = m.1 := by omega
    rw [this]; rfl
end DL

set_option Elab.async false
set_option linter.all false
set_option maxRecDepth 100000
set_option maxHeartbeats 4000000
/-! WK7: crowds of a size, zero crowds, named books -/
namespace DL
open PySem PySem.Spec PyProof.Rows L2
def spCrowds (kk : Nat) : DSp := fun ds O Φ _ => ∃ k n : Nat, ds = [I (k : Int), I (n : Int)] ∧ 1 ≤ k ∧ k ≤ kk ∧ k ≤ 3 ∧ n ≤ 8 ∧ Φ (lT (crowdsL k n)) O
theorem ppow {n k : Nat} (hn : n ≤ 8) (hk : k ≤ 3) : (n + 1) ^ k ≤ 729 := Nat.le_trans (Nat.pow_le_pow_left (show n + 1 ≤ 9 by omega) k) (Nat.le_trans (Nat.pow_le_pow_right (by decide) hk) (by decide))
theorem crowdsL_mem : ∀ (k n : Nat) (c : List Int), 1 ≤ k → (c ∈ crowdsL k n ↔ c.length = k ∧ (∀ x ∈ c, 0 ≤ x) ∧ c.sum = n)
  | 0, _, _, h => by omega
  | 1, n, c, _ => by
    constructor
    · intro h
      have h : c = [(n : Int)] := by simpa [crowdsL] using h
      subst h
      exact ⟨rfl, fun x hx => by have : x = (n : Int) := by simpa using hx
                                 omega, by simp⟩
    · rintro ⟨h1, h2, h3⟩
      match c, h1 with
      | [x], _ =>
        have : x = (n : Int) := by simpa using h3
        subst this
        simp [crowdsL]
  | k + 2, n, c, _ => by
    constructor
    · intro h
      have h : c ∈ (List.range (n + 1)).flatMap fun x => (crowdsL (k + 1) (n - x)).map ((x : Int) :: ·) := h
      obtain ⟨x, hx, hc⟩ := List.mem_flatMap.mp h
      obtain ⟨r, hr, rfl⟩ := List.mem_map.mp hc
      have hx := List.mem_range.mp hx
      obtain ⟨r1, r2, r3⟩ := (crowdsL_mem (k + 1) (n - x) r (by omega)).mp hr
      refine ⟨by simp [r1], fun y hy => ?_, ?_⟩
      · rcases List.mem_cons.mp hy with e | e
        · omega
        · exact r2 y e
      · rw [sum_cons_int, r3]; omega
    · rintro ⟨h1, h2, h3⟩
      match c, h1 with
      | x :: r, h1 =>
        have hx := h2 x List.mem_cons_self
        have hr := fun y hy => h2 y (List.mem_cons_of_mem _ hy)
        have hs := sum_nn hr
        rw [sum_cons_int] at h3
        show _ ∈ (List.range (n + 1)).flatMap fun x => (crowdsL (k + 1) (n - x)).map ((x : Int) :: ·)
        refine List.mem_flatMap.mpr ⟨x.toNat, List.mem_range.mpr (by omega), List.mem_map.mpr ⟨r, (crowdsL_mem (k + 1) (n - x.toNat) r (by omega)).mpr ⟨by simpa using h1, hr, by omega⟩, ?_⟩⟩
        have : ((x.toNat : Nat) : Int) = x := by omega
        rw [this]
section
variable {P : Program} {w : World} {K : PySem.W.Frag} {mg : Str → Option Value} {base : Heap} {T : List (Addr × Str)} {cB cC cR cQ C : Addr}
theorem cCrowdsBody (t : Tx K mg) (d : Df K mg "_law_crowds" sCrowds ["_law_kinds", "_law_size"]) (kk : Nat) (rec_ : ∀ k', kk = k' + 1 → Cal P w K mg base T CX0 "_law_crowds" (k' + 1) ["_law_kinds", "_law_size"] (spCrowds k')) :
    Cal P w K mg base T CX0 "_law_crowds" (kk + 1) ["_law_kinds", "_law_size"] (spCrowds kk) := by
  refine calD d scCrowds (fun ds O Φ Ψ ⟨a, b, h, _⟩ => by rw [h]; rfl) fun f cdv A outer s H E H0 O ds Φ Ψ hr ⟨k, n, e, h1, h2, h3, h4, φ⟩ => ?_
  subst e
  refine wss_cons (ws_if (wt_cmp op_eq (wd_nm 0 rfl (wd_int (rr_eq rfl ⟨_, rfl, fun q => ?_, fun q => wss_nil ?_⟩)))))
  · have q := of_decide_eq_true q
    injection q with q
    have q : k = 1 := by omega
    subst q
    exact wss_one (ws_ret (ret_val (wd_lst (wa_1 (wd_tup (wa_1 (wd_nm 1 rfl ⟨by simp, by simp, .inl φ⟩)))))))
  · have q := of_decide_eq_false q
    have q : k ≠ 1 := fun z => q (by rw [z]; rfl)
    obtain ⟨k', rfl⟩ : ∃ k', k = k' + 2 := ⟨k - 2, by omega⟩
    obtain ⟨kk', rfl⟩ : ∃ kk', kk = kk' + 1 := ⟨kk - 1, by omega⟩
    have upto : ∀ i, i ≤ n + 1 → ((List.range i).flatMap fun x => (crowdsL (k' + 1) (n - x)).map ((x : Int) :: ·)).length ≤ i * 729 := by
      intro i
      induction i with
      | zero => intro _; simp
      | succ i ih =>
        intro hi
        have i1 := ih (by omega)
        have i2 := crowdsL_len (k' + 1) (n - i)
        have i3 := ppow (n := n - i) (k := k' + 1) (by omega) (by omega)
        rw [List.range_succ, List.flatMap_append, List.length_append, List.flatMap_cons, List.flatMap_nil, List.append_nil, List.length_map]
        omega
    refine wss_cons (ws_set 2 (wd_lst (wa_nil ⟨by simp, .inl ?_⟩)) scCrowds.nd)
    refine wss_cons (ws_for PassesOwn.never (pg_name (i := 3) scCrowds.nd rfl (.inr rfl) (.inl rfl)) (wi_range1 t.range (wd_op op_add (wd_nm 1 rfl (wd_int (rr_I0 ⟨(n : Int) + 1, rfl, by omega, by omega, fun i Γ' O' => (∃ y3, Γ' = [some (I ((k' + 2 : Nat) : Int)), some (I (n : Int)), some (lT ((List.range i).flatMap fun x => (crowdsL (k' + 1) (n - x)).map ((x : Int) :: ·))), y3, none]) ∧ O' = O, ⟨⟨_, rfl⟩, rfl⟩, fun _ _ _ _ => trivial, ?_, ?_⟩))))))
    · rintro i d2 Γ' O' hi ⟨⟨y3, rfl⟩, rfl⟩ hy
      subst hy
      have hi2 : i ≤ n := by
        have : ((n : Int) + 1).toNat = n + 1 := by omega
        omega
      rw [Int.zero_add]
      refine rg_name (wss_one (ws_set 2 (wd_op op_cat (wd_nm 2 rfl (wd_lc [("_law_rest", 4)] (gName 4) (gw_name (by decide)) scCrowds.nd (blkOk_by (N := ["_law_kinds", "_law_size", "_law_found", "_law_x", "_law_rest"]) (sc := defScope sCrowds) (by decide +kernel)) (fun s H C cl fp => pg_name scCrowds.nd rfl (.inl rfl) (.inr rfl)) (wi_list (wd_call (rec_ kk' rfl) hr (wa_two ?_)))))) scCrowds.nd))
      refine wd_op op_sub (wd_nm 0 rfl (wd_int (rr_I0 (wd_op op_sub (wd_nm 1 rfl (wd_nm 3 rfl (rr_I0 ⟨k' + 1, n - i, ?_, by omega, by omega, by omega, by omega, (crowdsL (k' + 1) (n - i)).map tI, .lst, ?_⟩)))))))
      · have e1 : (((k' + 2 : Nat) : Int) - 1) = ((k' + 1 : Nat) : Int) := by omega
        have e2 : ((n : Int) - (i : Int)) = ((n - i : Nat) : Int) := by omega
        rw [e1, e2]
      have i2 := crowdsL_len (k' + 1) (n - i)
      have i3 := ppow (n := n - i) (k := k' + 1) (by omega) (by omega)
      refine lcw_map (((crowdsL (k' + 1) (n - i)).map ((i : Int) :: ·)).map tI) (by simp) (by simp; omega) .lst (fun j d hj hy => ?_) (.inl ?_)
      · obtain ⟨c, h5, e⟩ := tIs_get hy
        subst e
        refine rg_name ⟨rfl, fun s0 H1 C cl fp => wd_op op_catA (wd_tup (wa_1 (wd_nm 3 rfl ⟨by simp, wd_nm 4 rfl (rr_catT ?_ ⟨?_, rfl⟩)⟩)))⟩
        · have := ((crowdsL_mem (k' + 1) (n - i) c (by omega)).mp (List.mem_of_getElem? h5)).1
          simp [this]; omega
        · rw [List.map_map, List.getElem?_map, h5]; rfl
      · have u := upto i (by omega)
        refine rr_cat .lst .lst ?_ (.inl ⟨⟨some (I (i : Int)), ?_⟩, rfl⟩)
        · simp only [List.length_map]
          have : i * 729 ≤ 9 * 729 := Nat.mul_le_mul_right _ (by omega)
          omega
        · rw [List.range_succ, List.flatMap_append, List.flatMap_cons, List.flatMap_nil, List.append_nil]
          simp [lT]
    · rintro Γ' O' ⟨⟨y3, rfl⟩, rfl⟩
      have e : ((n : Int) + 1).toNat = n + 1 := by omega
      rw [e]
      exact wss_one (ws_ret (ret_val (wd_nm 2 rfl φ)))
theorem cCrowds (t : Tx K mg) (d : Df K mg "_law_crowds" sCrowds ["_law_kinds", "_law_size"]) : ∀ kk : Nat, Cal P w K mg base T CX0 "_law_crowds" (kk + 1) ["_law_kinds", "_law_size"] (spCrowds kk)
  | 0 => cCrowdsBody t d 0 fun k' h => by omega
  | kk + 1 => cCrowdsBody t d (kk + 1) fun k' h => by
    have e : kk = k' := by omega
    subst e
    exact cCrowds t d kk
end
end DL

set_option Elab.async false
set_option linter.all false
set_option maxRecDepth 100000
set_option maxHeartbeats 4000000
/-! WK8: zero crowds, named books -/
namespace DL
open PySem PySem.Spec PyProof.Rows L2
abbrev sNamed : Stmt := topS 40
theorem scZero : FnScope ["_law_clocks", "_law_names", "_law_crowd_here", "_law_at", "_law_clock", "_law_whole", "_law_kind", "_law_x"] ["_law_clocks", "_law_names", "_law_crowd_here"] (defScope sZero) := C8.fnScope_by (by decide +kernel)
theorem scNamed : FnScope ["_law_deal", "_law_kinds", "_law_form", "_law_clocks", "_law_names", "_law_found", "_law_size", "_law_crowd_here", "_law_clock", "_law_kind", "_law_one"] ["_law_deal", "_law_kinds"] (defScope sNamed) := C8.fnScope_by (by decide +kernel)
def zero1 (cl : Int) (row c : List Int) : Bool := decide (dot c row = 0) || (!decide (cl = 0) && decide (dot c row % cl = 0))
def zeroB (cls : List Int) (rows : List (List Int)) (c : List Int) : Bool := (cls.zip rows).all fun p => zero1 p.1 p.2 c
def lI (row : List Int) : Dat := .lst (row.map I)
/-- the clocks, and the hours of each name by each of them -/
structure NamesOk (k : Nat) (cls : List Int) (rows : List (List Int)) : Prop where
  c : cls ∈ [[2], [3], [4], [2, 2], [0], [5]]
  l : rows.length = cls.length
  r : ∀ (i : Nat) (cl : Int) (row : List Int), cls[i]? = some cl → rows[i]? = some row → row.length = k ∧ ∀ x ∈ row, if 0 < cl then 0 ≤ x ∧ x < cl else -2 ≤ x ∧ x ≤ 2
theorem NamesOk.len {k : Nat} {cls : List Int} {rows : List (List Int)} (h : NamesOk k cls rows) : cls.length ≤ 2 ∧ ∀ cl ∈ cls, 0 ≤ cl ∧ cl ≤ 5 := by
  have := h.c
  simp only [List.mem_cons, List.not_mem_nil, or_false] at this
  rcases this with e | e | e | e | e | e <;> subst e <;> simp
theorem NamesOk.bd {k : Nat} {cls : List Int} {rows : List (List Int)} (h : NamesOk k cls rows) {i : Nat} {cl : Int} {row : List Int} (h1 : cls[i]? = some cl) (h2 : rows[i]? = some row) : row.length = k ∧ ∀ x ∈ row, -2 ≤ x ∧ x ≤ 5 := by
  obtain ⟨a, b⟩ := h.r i cl row h1 h2
  have c := h.len.2 cl (List.mem_of_getElem? h1)
  refine ⟨a, fun x hx => ?_⟩
  have := b x hx
  split at this <;> omega
theorem decV (a b : Int) : decide (V.int a = V.int b) = decide (a = b) := by
  by_cases h : a = b
  · simp [h]
  · rw [decide_eq_false h, decide_eq_false fun z => h (by injection z)]
def spZero : DSp := fun ds O Φ _ => ∃ k cls rows c, ds = [.lst (cls.map I), .lst (rows.map lI), tI c] ∧ NamesOk k cls rows ∧ c.length = k ∧ k ≤ 1000 ∧ Φ (B (zeroB cls rows c)) O
section
variable {z : En} {X : Cx} {elt : Expr} {Γ : Env'} {O : OHp} {Φ : Dat → OHp → Prop} {scope : Scope} {own : List (Str × Nat)} {g : TG}
/-- [elt for ..]: each item draws -/
theorem lcw_draw {α : Type} (enc : α → Dat) (p : Nat → α → Prop) {n : Nat} {Y : Nat → Dat → Prop} {C : OHp → Prop} (D : Addr) (hn : n ≤ 100000) (hD : DealOk O D) (hC : ∀ O', C O')
    (turn : ∀ i d O', i < n → Draws O O' D → Y i d → RG z X.K g d (wipeE Γ (own.map (·.2))) O' fun Γ2 O2 => O2 = O' ∧ WDb z X scope elt Γ2 O' fun y O4 => (∃ x, y = enc x ∧ p i x) ∧ Draws O' O4 D)
    (fin : ∀ (xs : List α) O', xs.length = n → (∀ (i : Nat) x, xs[i]? = some x → p i x) → Draws O O' D → NewL O' (xs.map enc) Φ) : LcW z X scope own elt [] g Γ Φ n Y C O := by
  refine ⟨hn, fun i acc O' => ∃ xs : List α, acc = xs.map enc ∧ xs.length = i ∧ (∀ (j : Nat) x, xs[j]? = some x → p j x) ∧ Draws O O' D, ⟨[], rfl, rfl, fun j x h => by simp at h, .refl hD⟩, fun i acc O' _ => hC O', fun i d acc O' hi ⟨xs, e1, e2, e3, e4⟩ y => ?_, fun acc O' ⟨xs, e1, e2, e3, e4⟩ => by rw [e1]; exact fin xs O' e2 e3 e4⟩
  subst e1
  exact fun σ H H0 v Q st en r' k => turn i d O' hi e4 y σ H H0 v Q st en r' fun σ' Γ' H0' O2 H' s' e' ⟨q1, q2⟩ => k σ' Γ' H0' O2 H' s' e' (by
    subst q1
    exact fun s0 H1 C cl fp => wts_nil ⟨fun _ s0 H1 C cl fp => rd_imp (q2 s0 H1 C cl fp) fun d O4 ⟨⟨x, q3, q4⟩, q5⟩ => ⟨xs ++ [x], by rw [q3, List.map_append]; rfl, by simp [e2], fun j y hy => (by
      by_cases hj : j < xs.length
      · rw [List.getElem?_append_left hj] at hy; exact e3 j y hy
      · rw [List.getElem?_append_right (by omega)] at hy
        cases hk : j - xs.length with
        | zero =>
          rw [hk] at hy
          have : x = y := by simpa using hy
          have hji : j = i := by omega
          rw [← this, hji]; exact q4
        | succ m => rw [hk] at hy; simp at hy), e4.trans q5⟩, fun z => by cases z⟩)
end
/-! ### named books -/
def stepN (cls : List Int) (rows : List (List Int)) (found : List (List Int)) (c : List Int) : List (List Int) := if zeroB cls rows c = true ∧ (found.filter fun f => leCr f c) = [] then found ++ [c] else found
def allC (k : Nat) : List (List Int) := (List.range 6).flatMap fun s => crowdsL k (s + 1)
def namedR (cls : List Int) (rows : List (List Int)) (k : Nat) : List (List Int) := (allC k).foldl (stepN cls rows) []
def spNamed : DSp := fun ds O Φ _ => ∃ (D : Addr) (k : Nat), ds = [R D, I (k : Int)] ∧ 1 ≤ k ∧ k ≤ 3 ∧ DealOk O D ∧ ∀ cls rows O', NamesOk k cls rows → Draws O O' D → Φ (.tup [.lst (cls.map I), .lst (rows.map lI), lT ((namedR cls rows k).mergeSort leC)]) O'
theorem fold_len (cls : List Int) (rows : List (List Int)) : ∀ (cs found : List (List Int)), (cs.foldl (stepN cls rows) found).length ≤ found.length + cs.length
  | [], found => by simp
  | c :: cs, found => by
    have := fold_len cls rows cs (stepN cls rows found c)
    have h : (stepN cls rows found c).length ≤ found.length + 1 := by unfold stepN; split <;> simp
    rw [List.foldl_cons, List.length_cons]; omega
theorem fold_mem (cls : List Int) (rows : List (List Int)) : ∀ (cs found : List (List Int)) (c : List Int), c ∈ cs.foldl (stepN cls rows) found → c ∈ found ∨ (c ∈ cs ∧ zeroB cls rows c = true)
  | [], found, c, h => .inl h
  | x :: cs, found, c, h => by
    rw [List.foldl_cons] at h
    rcases fold_mem cls rows cs _ c h with q | q
    · unfold stepN at q
      split at q
      · rename_i hz
        rcases List.mem_append.mp q with q | q
        · exact .inl q
        · have q := List.mem_singleton.mp q
          subst q
          exact .inr ⟨List.mem_cons_self, hz.1⟩
      · exact .inl q
    · exact .inr ⟨List.mem_cons_of_mem _ q.1, q.2⟩
theorem allC_len (k : Nat) (hk : k ≤ 3) : (allC k).length ≤ 4374 := by
  have h : ∀ l : List Nat, (∀ x ∈ l, x < 6) → (l.flatMap fun s => crowdsL k (s + 1)).length ≤ l.length * 729 := by
    intro l
    induction l with
    | nil => intro _; simp
    | cons x l ih =>
      intro hx
      have i1 := ih fun y hy => hx y (List.mem_cons_of_mem _ hy)
      have i2 := crowdsL_len k (x + 1)
      have i3 := ppow (n := x + 1) (k := k) (by have := hx x List.mem_cons_self; omega) hk
      rw [List.flatMap_cons, List.length_append, List.length_cons, Nat.add_mul, Nat.one_mul]
      omega
  have := h (List.range 6) fun x hx => List.mem_range.mp hx
  rw [List.length_range] at this
  exact this
theorem allC_mem {k : Nat} (hk : 1 ≤ k) {c : List Int} : c ∈ allC k ↔ c.length = k ∧ (∀ x ∈ c, 0 ≤ x) ∧ 1 ≤ c.sum ∧ c.sum ≤ 6 := by
  unfold allC
  constructor
  · intro h
    obtain ⟨s, hs, hc⟩ := List.mem_flatMap.mp h
    have hs := List.mem_range.mp hs
    obtain ⟨a, b, e⟩ := (crowdsL_mem k (s + 1) c hk).mp hc
    exact ⟨a, b, by omega, by omega⟩
  · rintro ⟨a, b, e1, e2⟩
    exact List.mem_flatMap.mpr ⟨c.sum.toNat - 1, List.mem_range.mpr (by omega), (crowdsL_mem k _ c hk).mpr ⟨a, b, by omega⟩⟩
section
variable {P : Program} {w : World} {K : PySem.W.Frag} {mg : Str → Option Value} {base : Heap} {T : List (Addr × Str)} {cB cC cR cQ C : Addr}
theorem cZero (t : Tx K mg) (d : Df K mg "_law_zero" sZero ["_law_clocks", "_law_names", "_law_crowd_here"]) : Cal P w K mg base T CX0 "_law_zero" 1 ["_law_clocks", "_law_names", "_law_crowd_here"] spZero := by
  refine calD d scZero (fun ds O Φ Ψ ⟨_, _, _, _, h, _⟩ => by rw [h]; rfl) fun f cdv A outer s H E H0 O ds Φ Ψ hr ⟨k, cls, rows, c, e, NO, hc, hk, φ⟩ => ?_
  subst e
  obtain ⟨hl2, hcl⟩ := NO.len
  refine wss_cons (ws_for PassesOwn.never (pg2 3 4 scZero.nd) (wi_enumL t.enumerate (wd_nm 0 rfl ⟨cls.map I, .lst, fun i Γ' O' => (∃ y3 y4 y5, Γ' = [some (.lst (cls.map I)), some (.lst (rows.map lI)), some (tI c), y3, y4, y5, none, none]) ∧ O' = O ∧ ((cls.zip rows).take i).all (fun p => zero1 p.1 p.2 c) = true, ⟨⟨_, _, _, rfl⟩, rfl, rfl⟩, fun _ _ _ _ => .lst, ?_, ?_⟩)))
  · rintro i d2 Γ' O' hi ⟨⟨y3, y4, y5, rfl⟩, rfl, hall⟩ ⟨x, hx, rfl⟩
    obtain ⟨cl, h1, rfl⟩ := ints_get hx
    have hi2 : i < cls.length := (List.getElem?_eq_some_iff.mp h1).1
    obtain ⟨row, h2⟩ : ∃ row, rows[i]? = some row := ⟨_, List.getElem?_eq_getElem (by rw [NO.l]; exact hi2)⟩
    obtain ⟨r1, r2⟩ := NO.bd h1 h2
    have hcl1 := hcl cl (List.mem_of_getElem? h1)
    have hz : (cls.zip rows)[i]? = some (cl, row) := by rw [List.getElem?_zip_eq_some]; exact ⟨h1, h2⟩
    have lrow : (rows.map lI)[i]? = some (lI row) := by rw [List.getElem?_map, h2]; rfl
    refine rg2 (wss_cons (ws_set 5 (wd_sum t.sum (wd_lc [("_law_kind", 6), ("_law_x", 7)] (gTup K 2 (gCons (gName 6) (gCons (gName 7) gNil))) (gw_tup (by decide) (by decide)) scZero.nd (blkOk_by (N := ["_law_clocks", "_law_names", "_law_crowd_here", "_law_at", "_law_clock", "_law_whole", "_law_kind", "_law_x"]) (sc := defScope sZero) (by decide +kernel)) (fun s H C cl fp => pg2 6 7 scZero.nd) (wi_enumT t.enumerate (wd_nm 2 rfl ⟨c.map I, rfl, ?_⟩)))) scZero.nd))
    refine lcw_map ((List.zipWith (· * ·) c row).map I) (by simp [hc, r1]) (by simp; omega) trivial (fun j d hj hy => ?_) (.inl ⟨_, .lst, ?_⟩)
    · obtain ⟨x, q1, e⟩ := en_get hy
      subst e
      obtain ⟨y, q2⟩ := get_same (a := c) (b := row) (by rw [hc, r1]) q1
      have hy := r2 y (List.mem_of_getElem? q2)
      exact rg2 ⟨rfl, fun s0 H1 C cl fp => wd_op op_mul (wd_nm 7 rfl (wd_ixL (wd_ixL (wd_nm 1 rfl (wd_nm 3 rfl ⟨rows.map lI, (i : Int), lI row, .lst, rfl, atI_ofNat lrow, wd_nm 6 rfl ⟨row.map I, (j : Int), I y, .lst, rfl, atI_ofNat (mapI_get q2), rr_I (.inr ⟨by omega, by omega⟩) ⟨mapI_get (zw_get q1 q2), rfl⟩⟩⟩)))))⟩
    · have next : zero1 cl row c = true → ((cls.zip rows).take (i + 1)).all (fun p => zero1 p.1 p.2 c) = true := fun hq => by
        rw [List.take_add_one, hz, List.all_append, hall]
        simp [hq]
      have bad : zero1 cl row c = false → zeroB cls rows c = false := fun hq => by
        unfold zeroB
        rw [List.all_eq_false]
        exact ⟨(cl, row), List.mem_of_getElem? hz, by simp [hq]⟩
      refine wss_one (ws_if (wt_ww (ww_and (wt_cmp op_ne (wd_nm 5 rfl (wd_int (rr_ne rfl ⟨_, rfl, fun q => ⟨(fun z => nomatch z), fun _ => wss_nil ⟨⟨_, _, _, rfl⟩, rfl, next ?_⟩⟩, fun q => ww_and1 (wt_ww (ww_or (wt_cmp op_eq (wd_nm 4 rfl (wd_int (rr_eq rfl ⟨_, rfl, fun q2 => ?_, fun q2 => ww_or1 (wt_cmp op_ne (wd_op op_mod (wd_int1 t.int (wd_nm 5 rfl ⟨_, rfl, wd_nm 4 rfl (rr_I ?_ (wd_int (rr_ne rfl ⟨_, rfl, fun q3 => ?_, fun q3 => ?_⟩)))⟩))))⟩))))))⟩)))))))
      · have q : (!decide (V.int (dot c row) = V.int 0)) = false := q
        rw [decV] at q
        unfold zero1
        simp only [Bool.not_eq_false'] at q
        rw [q]; rfl
      · have q : (!decide (V.int (dot c row) = V.int 0)) = true := q
        rw [decV] at q q2
        have q : decide (dot c row = 0) = false := by simpa using q
        refine ⟨fun _ => wss_one (ws_ret (ret_val (wd_bl ?_))), (fun z => nomatch z)⟩
        rw [bad (by unfold zero1; rw [q, q2]; rfl)] at φ
        exact φ
      · rw [decV] at q2
        have := of_decide_eq_false q2
        omega
      · have q : (!decide (V.int (dot c row) = V.int 0)) = true := q
        have q3 : (!decide (V.int (dot c row % cl) = V.int 0)) = true := q3
        rw [decV] at q q3
        have q : decide (dot c row = 0) = false := by simpa using q
        have q3 : decide (dot c row % cl = 0) = false := by simpa using q3
        refine wss_one (ws_ret (ret_val (wd_bl ?_)))
        rw [bad (by unfold zero1; rw [q, q3, Bool.and_false]; rfl)] at φ
        exact φ
      · have q3 : (!decide (V.int (dot c row % cl) = V.int 0)) = false := q3
        rw [decV] at q2 q3
        have q3 : decide (dot c row % cl = 0) = true := by simpa using q3
        exact wss_nil ⟨⟨_, _, _, rfl⟩, rfl, next (by unfold zero1; rw [q2, q3]; simp)⟩
  · rintro Γ' O' ⟨⟨y3, y4, y5, rfl⟩, rfl, hall⟩
    have : zeroB cls rows c = true := by
      unfold zeroB
      rw [List.take_of_length_le (by simp [NO.l])] at hall
      exact hall
    rw [this] at φ
    exact wss_one (ws_ret (ret_val (wd_bl φ)))
end
end DL

set_option Elab.async false
set_option linter.all false
set_option maxRecDepth 100000
set_option maxHeartbeats 1000000
/-! WK9: _law_named -/
namespace DL
open PySem PySem.Spec PyProof.Rows L2
def asgVal : Stmt → Expr
  | .Assign _ v _ => v
  | _ => .Constant .none 0 ⟨0, 0, 0, 0⟩
def lcScope : Expr → Scope
  | .ListComp _ _ sc _ => sc
  | _ => ⟨.function, [], false, false, []⟩
def cl6 : List (List Int) := [[2], [3], [4], [2, 2], [0], [5]]
section
variable {P : Program} {w : World} {K : PySem.W.Frag} {mg : Str → Option Value} {base : Heap} {T : List (Addr × Str)} {cB cC cR cQ C : Addr}
theorem cNamed (t : Tx K mg) (i0 : Cal P w K mg base T CX0 "_law_any" 1 ["_law_deal", "_law_bound"] spAny) (i1 : Cal P w K mg base T CX0 "_law_of" 2 ["_law_deal", "_law_some"] spOf) (i2 : Cal P w K mg base T CX0 "_law_crowds" 4 ["_law_kinds", "_law_size"] (spCrowds 3))
    (i3 : Cal P w K mg base T CX0 "_law_zero" 1 ["_law_clocks", "_law_names", "_law_crowd_here"] spZero) (i4 : Cal P w K mg base T CX0 "_law_within" 1 ["_law_one", "_law_other"] spWith) (d : Df K mg "_law_named" sNamed ["_law_deal", "_law_kinds"]) : Cal P w K mg base T CX0 "_law_named" 5 ["_law_deal", "_law_kinds"] spNamed := by
  refine calD d scNamed (fun ds O Φ Ψ ⟨_, _, h, _⟩ => by rw [h]; rfl) fun f cdv A outer s H E H0 O ds Φ Ψ hr ⟨D, k, e, hk1, hk3, hD, φ⟩ => ?_
  subst e
  have hu : (A.deeper (envOfC "_law_named" (defScope sNamed) s.heap.objs.size f cdv)).units + 64 < cLine := hr.units
  refine wss_cons (ws_set 2 (wd_call i0 (hr.mono (by decide)) (wa_two (wd_nm 0 rfl (wd_int ⟨D, 6, rfl, by decide, by decide, hD, fun r O1 h0 h1 dr1 => ?_⟩)))) scNamed.nd)
  obtain ⟨n, rfl⟩ : ∃ n : Nat, r = (n : Int) := ⟨r.toNat, by omega⟩
  obtain ⟨cls, hcls⟩ : ∃ cls, cl6[n]? = some cls := ⟨_, List.getElem?_eq_getElem (show n < 6 by omega)⟩
  have lcl : (cl6.map lI)[n]? = some (lI cls) := by rw [List.getElem?_map, hcls]; rfl
  have mcl : cls ∈ cl6 := List.mem_of_getElem? hcls
  refine wss_cons (ws_set 3 (wd_ixL (wd_lst ?_)) scNamed.nd)
  refine wa_cons (wd_lst (wa_1 (wd_int ⟨by decide, .inl ?_⟩)))
  refine wa_cons (wd_lst (wa_1 (wd_int ⟨by decide, .inl ?_⟩)))
  refine wa_cons (wd_lst (wa_1 (wd_int ⟨by decide, .inl ?_⟩)))
  refine wa_cons (wd_lst (wa_two (wd_int (wd_int ⟨by decide, .inl ?_⟩))))
  refine wa_cons (wd_lst (wa_1 (wd_int ⟨by decide, .inl ?_⟩)))
  refine wa_cons (wd_lst (wa_1 (wd_int ⟨by decide, .inl ?_⟩)))
  refine wa_nil ⟨by decide, .inl ?_⟩
  refine wd_nm 2 rfl ⟨cl6.map lI, (n : Int), lI cls, .inl rfl, rfl, atI_ofNat lcl, ?_⟩
  obtain ⟨hl2, hcl⟩ : cls.length ≤ 2 ∧ ∀ cl ∈ cls, 0 ≤ cl ∧ cl ≤ 5 := by
    simp only [cl6, List.mem_cons, List.not_mem_nil, or_false] at mcl
    rcases mcl with e | e | e | e | e | e <;> subst e <;> simp
  refine wss_cons (ws_setLc 4 [("_law_clock", 8)] (gName 8) (gw_name (by decide)) scNamed.nd (blkOk_by (N := ["_law_deal", "_law_kinds", "_law_form", "_law_clocks", "_law_names", "_law_found", "_law_size", "_law_crowd_here", "_law_clock", "_law_kind", "_law_one"]) (sc := defScope sNamed) (by decide +kernel)) (fun s H C cl fp => pg_name scNamed.nd rfl (by first | exact .inl rfl | exact .inr rfl) (by first | exact .inl rfl | exact .inr rfl)) rfl (wi_list (wd_nm 3 rfl ⟨cls.map I, .lst, ?_⟩)))
  refine lcw_draw lI (fun i row => ∀ cl, cls[i]? = some cl → row.length = k ∧ ∀ x ∈ row, if 0 < cl then 0 ≤ x ∧ x < cl else -2 ≤ x ∧ x ≤ 2) D (by rw [List.length_map]; omega) dr1.ok (fun _ => .lst) (fun i dd O2 hi dr2 hy => ?_) (fun rows O2 hlr hrows dr2 => .inl ?_)
  · obtain ⟨cl, h1c, e⟩ := ints_get hy
    subst e
    have hcl1 := hcl cl (List.mem_of_getElem? h1c)
    refine rg_name ⟨rfl, fun s0 H1 C0 clo fp => ?_⟩
    refine wd_lc [("_law_kind", 9)] (gName 9) (gw_name (by decide)) scNamed.nd (blkOk_by (N := ["_law_deal", "_law_kinds", "_law_form", "_law_clocks", "_law_names", "_law_found", "_law_size", "_law_crowd_here", "_law_clock", "_law_kind", "_law_one"]) (sc := relS (lcScope (asgVal ((defBody sNamed).getD 2 (.Pass ⟨0, 0, 0, 0⟩)))) (defScope sNamed)) (by decide +kernel)) (fun s H C cl fp => pg_name scNamed.nd rfl (by first | exact .inl rfl | exact .inr rfl) (by first | exact .inl rfl | exact .inr rfl)) (wi_range1 t.range (wd_nm 1 rfl ⟨(k : Int), rfl, by omega, by omega, ?_⟩))
    refine lcw_draw I (fun _ x => if 0 < cl then 0 ≤ x ∧ x < cl else -2 ≤ x ∧ x ≤ 2) D (by omega) dr2.ok (fun _ => trivial) (fun j dj O3 hj dr3 hyj => ?_) (fun xs O3 hlx hxs dr3 => .inl ⟨⟨xs, rfl, fun cl' h' => ?_⟩, dr3⟩)
    · refine rg_name ⟨rfl, fun s1 H2 C1 clo1 fp1 => wd_ifExp (wt_cmp op_gt (wd_nm 8 rfl (wd_int (rr_I0 ⟨_, rfl, fun q => ?_, fun q => ?_⟩))))⟩
      · have q : 0 < cl := of_decide_eq_true q
        exact wd_call i0 (hr.mono (by decide)) (wa_two (wd_nm 0 rfl (wd_nm 8 rfl ⟨D, cl, rfl, by omega, by omega, dr3.ok, fun r O4 r0 r1 dr4 => ⟨⟨r, rfl, by rw [if_pos q]; exact ⟨r0, r1⟩⟩, dr4⟩⟩)))
      · have q : ¬ 0 < cl := of_decide_eq_false q
        refine wd_call i1 (hr.mono (by decide)) (wa_two (wd_nm 0 rfl (wd_lst (wa_cons (wd_int (wa_cons (wd_int (wa_cons (wd_un un_neg (wd_int (ru_neg (wa_cons (wd_un un_neg (wd_int (ru_neg (wa_1 (wd_int ⟨by simp, .inl ⟨D, [I 1, I 2, I (-1), I (-2), I 0], rfl, by simp, by simp, dr3.ok, fun x O4 hx dr4 => ⟨?_, dr4⟩⟩⟩)))))))))))))))))
        simp only [List.mem_cons, List.not_mem_nil, or_false] at hx
        rcases hx with e | e | e | e | e <;> subst e <;> exact ⟨_, rfl, by rw [if_neg q]; omega⟩
    · rw [h1c] at h'
      cases h'
      refine ⟨by rw [hlx]; omega, fun x hx => ?_⟩
      obtain ⟨j, hj⟩ := List.getElem?_of_mem hx
      exact hxs j x hj
  have NO : NamesOk k cls rows := ⟨mcl, by rw [hlr, List.length_map], fun i cl row q1 q2 => hrows i row q2 cl q1⟩
  have dr := dr1.trans dr2
  have hkcs : ∀ s, s < 6 → ∀ c ∈ crowdsL k (s + 1), c.length = k ∧ ∀ x ∈ c, 0 ≤ x := fun s _ c hc => ⟨((crowdsL_mem k (s + 1) c hk1).mp hc).1, ((crowdsL_mem k (s + 1) c hk1).mp hc).2.1⟩
  refine wss_cons (ws_set 5 (wd_lst (wa_nil ⟨by simp, .inr fun p hp => ?_⟩)) scNamed.nd)
  let fo : Nat → List (List Int) := fun i => ((List.range i).flatMap fun s => crowdsL k (s + 1)).foldl (stepN cls rows) []
  have hupto : ∀ i, i ≤ 6 → ((List.range i).flatMap fun s => crowdsL k (s + 1)).length ≤ i * 729 := by
    intro i
    induction i with
    | zero => intro _; simp
    | succ i ih =>
      intro hi
      have i1 := ih (by omega)
      have i2 := crowdsL_len k (i + 1)
      have i3 := ppow (n := i + 1) (k := k) (by omega) hk3
      rw [List.range_succ, List.flatMap_append, List.length_append, List.flatMap_cons, List.flatMap_nil, List.append_nil]
      omega
  refine wss_cons (ws_for PassesOwn.never (pg_name (i := 6) scNamed.nd rfl (by first | exact .inl rfl | exact .inr rfl) (by first | exact .inl rfl | exact .inr rfl)) (wi_range2 t.range (wd_int (wd_ifExp (wt_cmp op_lt (wd_nm 1 rfl (wd_int (rr_I0 ⟨_, rfl, fun q => wd_int ⟨1, 7, rfl, rfl, by decide, fun i Γ' O' => (∃ y6 y7, Γ' = [some (R D), some (I (k : Int)), some (I (n : Int)), some (.lst (cls.map I)), some (.lst (rows.map lI)), some (R p), y6, y7, none, none, none]) ∧ O' = put O2 p (.lst ((fo i).map tI)), ⟨⟨_, _, rfl⟩, rfl⟩, fun _ _ _ _ => trivial, ?_, ?_⟩, fun q => ?_⟩))))))))
  · rintro i d2 Γ' O' hi ⟨⟨y6, y7, rfl⟩, rfl⟩ hy
    subst hy
    have hi6 : i < 6 := hi
    have es : (1 : Int) + (i : Int) = ((i + 1 : Nat) : Int) := by omega
    rw [es]
    refine rg_name (wss_one (ws_for PassesOwn.never (pg_name (i := 7) scNamed.nd rfl (by first | exact .inl rfl | exact .inr rfl) (by first | exact .inl rfl | exact .inr rfl)) (wi_list (wd_call i2 hr (wa_two (wd_nm 1 rfl (wd_nm 6 rfl ⟨k, i + 1, rfl, hk1, hk3, hk3, by omega, (crowdsL k (i + 1)).map tI, .lst,
      fun j Γ' O' => (∃ y7, Γ' = [some (R D), some (I (k : Int)), some (I (n : Int)), some (.lst (cls.map I)), some (.lst (rows.map lI)), some (R p), some (I ((i + 1 : Nat) : Int)), y7, none, none, none]) ∧ O' = put O2 p (.lst ((((crowdsL k (i + 1)).take j).foldl (stepN cls rows) (fo i)).map tI)), ⟨⟨_, rfl⟩, rfl⟩, fun _ _ _ _ => .lst, ?_, ?_⟩)))))))
    · rintro j d3 Γ' O' hj ⟨⟨y7, rfl⟩, rfl⟩ hy
      obtain ⟨c, hc, e⟩ := tIs_get hy
      subst e
      obtain ⟨c1, c2⟩ := hkcs i hi6 c (List.mem_of_getElem? hc)
      generalize hF : ((crowdsL k (i + 1)).take j).foldl (stepN cls rows) (fo i) = F
      have hFl : F.length ≤ 10000 := by
        have h1 := fold_len cls rows ((crowdsL k (i + 1)).take j) (fo i)
        have h2 := fold_len cls rows ((List.range i).flatMap fun s => crowdsL k (s + 1)) []
        have h3 := hupto i (by omega)
        have h4 := crowdsL_len k (i + 1)
        have h5 := ppow (n := i + 1) (k := k) (by omega) hk3
        have h6 : ((crowdsL k (i + 1)).take j).length ≤ (crowdsL k (i + 1)).length := by rw [List.length_take]; omega
        rw [hF] at h1
        have h7 : (fo i).length ≤ 0 + ((List.range i).flatMap fun s => crowdsL k (s + 1)).length := h2
        have h8 : i * 729 ≤ 6 * 729 := Nat.mul_le_mul_right _ (by omega)
        omega
      have hFk : ∀ f ∈ F, f.length = k := fun f hf => by
        rw [← hF] at hf
        rcases fold_mem cls rows _ _ f hf with q | q
        · rcases fold_mem cls rows _ _ f (show f ∈ ((List.range i).flatMap fun s => crowdsL k (s + 1)).foldl (stepN cls rows) [] from q) with q | q
          · simp at q
          · obtain ⟨s, hs, hc⟩ := List.mem_flatMap.mp q.1
            exact (hkcs s (by have := List.mem_range.mp hs; omega) f hc).1
        · exact (hkcs i hi6 f (List.mem_of_mem_take q.1)).1
      have step : ((crowdsL k (i + 1)).take (j + 1)).foldl (stepN cls rows) (fo i) = stepN cls rows F c := by
        rw [List.take_add_one, hc, List.foldl_append, hF]; rfl
      refine rg_name (wss_one (ws_if (wt_ww (ww_and (wt_val (wd_call i3 (hr.mono (by decide)) (wa_cons (wd_nm 3 rfl (wa_two (wd_nm 4 rfl (wd_nm 7 rfl ⟨k, cls, rows, c, rfl, NO, c1, by omega, _, rfl, fun q => ⟨(fun z => nomatch z), fun _ => wss_nil ⟨⟨some (tI c), rfl⟩, ?_⟩⟩, fun q => ww_and1 (wt_cmp (op_eqD hu) (wd_lc [("_law_one", 10)] (gName 10) (gw_name (by decide)) scNamed.nd (blkOk_by (N := ["_law_deal", "_law_kinds", "_law_form", "_law_clocks", "_law_names", "_law_found", "_law_size", "_law_crowd_here", "_law_clock", "_law_kind", "_law_one"]) (sc := defScope sNamed) (by decide +kernel)) (fun s H C cl fp => pg_name scNamed.nd rfl (by first | exact .inl rfl | exact .inr rfl) (by first | exact .inl rfl | exact .inr rfl)) (wi_list (wd_nm 5 rfl ⟨F.map tI, .own put_same, ?_⟩))))⟩)))))))))))
      · rw [step]; unfold stepN; rw [if_neg (fun z => by rw [z.1] at q; cases q)]
      refine lcw_filter (fun i => (F[i]?).bind fun x => if leCr x c = true then some (tI x) else none) (by rw [List.length_map]; omega) (.own put_same) (fun m d hm hy => ?_) (.inl ?_)
      · obtain ⟨x, h1, e⟩ := tIs_get hy
        subst e
        have hxk := hFk x (List.mem_of_getElem? h1)
        refine rg_name ⟨rfl, fun s0 H1 C cl fp => wts_one (wt_val (wd_call i4 (hr.mono (by decide)) (wa_two (wd_nm 10 rfl (wd_nm 7 rfl ⟨x, c, rfl, by rw [hxk, c1], by omega, _, rfl, rfl, fun hb s0 H1 C cl fp => wd_nm 10 rfl ⟨?_, rfl⟩, fun hb => ?_⟩)))))⟩
        · rw [h1]; simp [hb]
        · rw [h1]; simp [hb]
      · rw [List.length_map, filterMap_range]
        refine wd_lst (wa_nil ⟨by simp, .inl (rr_eqD (seeP_lT _) seeP_nil ⟨_, rfl, ?_⟩)⟩)
        rw [eqv_nil]
        refine ⟨fun q2 => ?_, fun q2 => wss_nil ⟨⟨some (tI c), rfl⟩, ?_⟩⟩
        · have q2 : F.filter (fun x => leCr x c) = [] := by
            cases h : F.filter (fun x => leCr x c) with
            | nil => rfl
            | cons _ _ => rw [h] at q2; simp at q2
          refine wss_one (ws_expr (wd_append (wd_nm 5 rfl ⟨p, rfl, ⟨_, put_same⟩, wd_nm 7 rfl ⟨F.map tI, put_same, by rw [List.length_map]; omega, ⟨some (tI c), rfl⟩, ?_⟩⟩)))
          rw [put_put, step]
          unfold stepN
          rw [if_pos ⟨q, q2⟩, List.map_append]
          rfl
        · rw [step]; unfold stepN
          rw [if_neg]
          rintro ⟨_, z⟩
          rw [z] at q2
          simp at q2
    · rintro Γ' O' ⟨⟨y7, rfl⟩, rfl⟩
      refine ⟨⟨_, _, rfl⟩, ?_⟩
      rw [List.length_map, List.take_length]
      show _ = put O2 p (.lst ((((List.range (i + 1)).flatMap fun s => crowdsL k (s + 1)).foldl (stepN cls rows) []).map tI))
      rw [List.range_succ, List.flatMap_append, List.foldl_append, List.flatMap_cons, List.flatMap_nil, List.append_nil]
  · rintro Γ' O' ⟨⟨y6, y7, rfl⟩, rfl⟩
    have hR : fo ((7 : Int) - 1).toNat = namedR cls rows k := rfl
    rw [hR]
    refine wss_one (ws_ret (wd_tup (wa_cons (wd_nm 3 rfl (wa_two (wd_nm 4 rfl (wd_sortC t.sorted hu (wd_nm 5 rfl ⟨namedR cls rows k, .own put_same, fun c hc => ?_, .inl ⟨by simp, .inl ⟨O2, sub_put hp, φ cls rows O2 NO dr⟩⟩⟩))))))))
    intro z
    rcases fold_mem cls rows _ _ c hc with q | q
    · simp at q
    · have := ((allC_mem hk1).mp q.1).1
      rw [z] at this
      simp at this
      omega
  · have q := of_decide_eq_false q
    omega
end
end DL

set_option Elab.async false
set_option linter.all false
set_option maxRecDepth 100000
set_option maxHeartbeats 1000000
/-! WK10: books drawn -/
namespace DL
open PySem PySem.Spec PyProof.Rows L2
theorem leC_trans (a b c : List Int) : leC a b = true → leC b c = true → leC a c = true := by
  unfold leC
  simp only [Bool.not_eq_true', decide_eq_false_iff_not]
  intro h1 h2 h3
  exact (List.le_trans (α := Int) (l₁ := a) (l₂ := b) (l₃ := c) h1 h2) h3
theorem leC_total (a b : List Int) : (leC a b || leC b a) = true := by
  unfold leC
  simp only [Bool.or_eq_true, Bool.not_eq_true', decide_eq_false_iff_not]
  exact (List.le_total (α := Int) a b)
def Srt (bs : List (List Int)) : Prop := bs.Pairwise fun a b => leC a b = true
theorem srt_sort (bs : List (List Int)) : Srt (bs.mergeSort leC) := List.pairwise_mergeSort leC_trans leC_total bs
theorem Srt.eq {bs : List (List Int)} (h : Srt bs) : bs.mergeSort leC = bs := List.mergeSort_of_pairwise h
/-- books that are drawn -/
structure Good (k : Nat) (bs : List (List Int)) : Prop where
  k1 : 1 ≤ k
  k3 : k ≤ 3
  b : ∀ b ∈ bs, b.length = k ∧ (∀ x ∈ b, 0 ≤ x) ∧ 1 ≤ b.sum ∧ b.sum ≤ 8
  nd : bs.Nodup
  srt : Srt bs
theorem Good.sub {k : Nat} {bs bs' : List (List Int)} (h : Good k bs) (s : bs'.Sublist bs) : Good k bs' := ⟨h.k1, h.k3, fun b hb => h.b b (s.subset hb), h.nd.sublist s, List.Pairwise.sublist s h.srt⟩
theorem good_sort {k : Nat} {bs : List (List Int)} (k1 : 1 ≤ k) (k3 : k ≤ 3) (b : ∀ b ∈ bs, b.length = k ∧ (∀ x ∈ b, 0 ≤ x) ∧ 1 ≤ b.sum ∧ b.sum ≤ 8) (nd : bs.Nodup) : Good k (bs.mergeSort leC) :=
  ⟨k1, k3, fun x hx => b x ((List.mergeSort_perm bs leC).mem_iff.mp hx), ((List.mergeSort_perm bs leC).nodup_iff).mpr nd, srt_sort bs⟩
theorem leCr_refl (c : List Int) : leCr c c = true := (leCr_iff rfl).mpr fun j => Int.le_refl _
theorem fold_nodup (cls : List Int) (rows : List (List Int)) : ∀ (cs found : List (List Int)), found.Nodup → (cs.foldl (stepN cls rows) found).Nodup
  | [], _, h => h
  | c :: cs, found, h => by
    rw [List.foldl_cons]
    refine fold_nodup cls rows cs _ ?_
    unfold stepN
    split
    · rename_i hz
      rw [List.nodup_append]
      refine ⟨h, by simp, fun x hx y hy e => ?_⟩
      have hy : y = c := by simpa using hy
      subst e
      rw [hy] at hx
      have : c ∈ found.filter fun f => leCr f c := List.mem_filter.mpr ⟨hx, leCr_refl c⟩
      rw [hz.2] at this
      simp at this
    · exact h
theorem namedR_mem {cls : List Int} {rows : List (List Int)} {k : Nat} {c : List Int} (h : c ∈ namedR cls rows k) : c ∈ allC k ∧ zeroB cls rows c = true := by
  rcases fold_mem cls rows _ _ c h with q | q
  · simp at q
  · exact q
theorem good_named {cls : List Int} {rows : List (List Int)} {k : Nat} (k1 : 1 ≤ k) (k3 : k ≤ 3) : Good k ((namedR cls rows k).mergeSort leC) :=
  good_sort k1 k3 (fun b hb => by
    obtain ⟨a1, a2, a3, a4⟩ := (allC_mem k1).mp (namedR_mem hb).1
    exact ⟨a1, a2, a3, by omega⟩) (fold_nodup cls rows _ [] (by simp))
/-! ### an owned cell beside the deal -/
structure DX (O O1 : OHp) (D p : Addr) (od : OD) : Prop where
  dr : Draws O (del O1 p) D
  aw : Away O1 D p
  at_ : O1 p = some od
theorem DX.init {O : OHp} {D p : Addr} {od : OD} (h : DealOk O D) (hp : O p = none) : DX O (put O p od) D p od :=
  ⟨by rw [del_put hp]; exact .refl h, (away_new h hp).put, put_same⟩
theorem deal_del {O : OHp} {D p L : Addr} {b : Int} {ns : List Int} (h : DealAt O D L b ns) (h1 : p ≠ D) (h2 : p ≠ L) : DealAt (del O p) D L b ns :=
  ⟨by rw [del_ne (Ne.symm h1)]; exact h.d, by rw [del_ne (Ne.symm h2)]; exact h.l, h.ne, h.n⟩
theorem DX.draw {O O1 O2 : OHp} {D p : Addr} {od : OD} (h : DX O O1 D p od) (d : Draws O1 O2 D) : DX O O2 D p od := by
  obtain ⟨e1, e2⟩ := d.away h.aw
  refine ⟨h.dr.trans ?_, e2, by rw [e1]; exact h.at_⟩
  obtain ⟨L, b, ns, a1, ⟨b', ns', a2⟩, a3⟩ := d
  have hL := h.aw.2 L b a1.d
  refine ⟨L, b, ns, deal_del a1 h.aw.1 hL, ⟨b', ns', deal_del a2 h.aw.1 hL⟩, fun a g1 g2 => ?_⟩
  by_cases ha : a = p
  · rw [ha, del_same, del_same]
  · rw [del_ne ha, del_ne ha]; exact a3 a g1 g2
theorem DX.put {O O1 : OHp} {D p : Addr} {od od' : OD} (h : DX O O1 D p od) : DX O (put O1 p od') D p od' := by
  refine ⟨?_, h.aw.put, put_same⟩
  have : del (DL.put O1 p od') p = del O1 p := by funext b; unfold del DL.put; split <;> rfl
  rw [this]; exact h.dr
theorem DX.ok {O O1 : OHp} {D p : Addr} {od : OD} (h : DX O O1 D p od) : DealOk O1 D := by
  obtain ⟨L, b, ns, a1⟩ := h.dr.ok
  have hd : O1 D = some (.lst [R L, I b]) := by have := a1.d; rw [del_ne (Ne.symm h.aw.1)] at this; exact this
  have hL := h.aw.2 L b hd
  exact ⟨L, b, ns, hd, by have := a1.l; rw [del_ne (Ne.symm hL)] at this; exact this, a1.ne, a1.n⟩
abbrev sBook : Stmt := topS 41
abbrev sTold : Stmt := topS 42
abbrev sCrowd : Stmt := topS 43
abbrev sCosts : Stmt := topS 44
theorem scBook : FnScope ["_law_deal", "_law_most", "_law_kinds", "_law_form", "_law_batches", "_law_one", "_law_turn", "_law_batch"] ["_law_deal", "_law_most"] (defScope sBook) := C8.fnScope_by (by decide +kernel)
theorem scTold : FnScope ["_law_deal", "_law_kinds", "_law_clocks", "_law_names", "_law_batches"] ["_law_deal"] (defScope sTold) := C8.fnScope_by (by decide +kernel)
theorem scCrowd : FnScope ["_law_deal", "_law_kinds", "_law_most", "_law_found", "_law_turn", "_law_kind"] ["_law_deal", "_law_kinds", "_law_most"] (defScope sCrowd) := C8.fnScope_by (by decide +kernel)
theorem scCosts : FnScope ["_law_deal", "_law_kinds", "_law_form", "_law_kind"] ["_law_deal", "_law_kinds"] (defScope sCosts) := C8.fnScope_by (by decide +kernel)
def spBook : DSp := fun ds O Φ _ => ∃ D, ds = [R D, I 3] ∧ DealOk O D ∧ ∀ (k : Nat) bs O', Good k bs → Draws O O' D → Φ (.tup [I (k : Int), lT bs]) O'
def ifBody : Stmt → List Stmt
  | .If _ b _ _ => b
  | _ => []
theorem erase_map {α β : Type} (f : α → β) : ∀ (l : List α) (j : Nat), (l.map f).eraseIdx j = (l.eraseIdx j).map f
  | [], _ => rfl
  | x :: l, 0 => rfl
  | x :: l, j + 1 => by
    show f x :: (l.map f).eraseIdx j = _
    rw [erase_map f l j]; rfl
theorem cut_to (bs : List (List Int)) (n : Nat) : cutD (bs.map tI) none (some (n : Int)) = (bs.take n).map tI := by
  rw [cutD_to, List.map_take]
theorem isE_tIs (bs : List (List Int)) : (toPs (bs.map tI)).isEmpty = bs.isEmpty := by rw [toPs_map]; cases bs <;> rfl
theorem seeO {O : OHp} {p : Addr} {bs : List (List Int)} (h : O p = some (.lst (bs.map tI))) : SeeP O (R p) (.list (bs.map fun c => PyData.tuple (c.map .int))) := by
  have := SeeP.own h (isPs_tIs 58 bs) (okSs_tIs bs)
  rw [toPs_map] at this
  exact this
theorem isE_map {α β : Type} (f : α → β) (l : List α) : (l.map f).isEmpty = l.isEmpty := by cases l <;> rfl
section
variable {P : Program} {w : World} {K : PySem.W.Frag} {mg : Str → Option Value} {base : Heap} {T : List (Addr × Str)} {cB cC cR cQ C : Addr}
theorem cBook (t : Tx K mg) (i0 : Cal P w K mg base T CX0 "_law_any" 1 ["_law_deal", "_law_bound"] spAny) (i1 : Cal P w K mg base T CX0 "_law_of" 2 ["_law_deal", "_law_some"] spOf) (i2 : Cal P w K mg base T CX0 "_law_crowds" 4 ["_law_kinds", "_law_size"] (spCrowds 3))
    (i3 : Cal P w K mg base T CX0 "_law_named" 5 ["_law_deal", "_law_kinds"] spNamed) (i4 : Cal P w K mg base T CX0 "_law_more" 1 ["_law_one", "_law_other"] spMore) (d : Df K mg "_law_book" sBook ["_law_deal", "_law_most"]) : Cal P w K mg base T CX0 "_law_book" 6 ["_law_deal", "_law_most"] spBook := by
  refine calD d scBook (fun ds O Φ Ψ ⟨_, h, _⟩ => by rw [h]; rfl) fun f cdv A outer s H E0 H0 O ds Φ Ψ hr ⟨D, e, hD, φ⟩ => ?_
  subst e
  have hu : (A.deeper (envOfC "_law_book" (defScope sBook) s.heap.objs.size f cdv)).units + 64 < cLine := hr.units
  have hu65 : (A.deeper (envOfC "_law_book" (defScope sBook) s.heap.objs.size f cdv)).units + 65 < cLine := by have := hr.un; omega
  refine wss_cons (ws_par 2 3 (wa_two (wd_op op_add (wd_int (wd_call i0 (hr.mono (by decide)) (wa_two (wd_nm 0 rfl (wd_nm 1 rfl ⟨D, 3, rfl, by decide, by decide, hD, fun r O1 r0 r1 dr1 => rr_I0 (wd_call i0 (hr.mono (by decide)) (wa_two (wd_nm 0 rfl (wd_int ⟨D, 5, rfl, by decide, by decide, dr1.ok, fun fm O2 f0 f1 dr2 => ⟨_, _, rfl, ?_⟩⟩))))⟩))))))) scBook.nd)
  obtain ⟨k, hk1, hk3, ek⟩ : ∃ k : Nat, 1 ≤ k ∧ k ≤ 3 ∧ (1 + r : Int) = (k : Int) := ⟨(1 + r).toNat, by omega, by omega, by omega⟩
  rw [ek]
  have dr := dr1.trans dr2
  refine wss_cons (ws_if (wt_cmp op_lt (wd_nm 3 rfl (wd_int (rr_I0 ⟨_, rfl, fun q => ?_, fun q => wss_nil ?_⟩)))))
  · by_cases hf2 : fm = 2
    · -- form 2: the list is owned
      subst hf2
      refine wss_cons (ws_set 4 (wd_slice sl_list (wd_ixT (wd_call i3 hr (wa_two (wd_nm 0 rfl (wd_nm 2 rfl ⟨D, k, rfl, hk1, hk3, dr.ok, fun cls rows O3 NO dr3 => wd_int ⟨_, 2, lT ((namedR cls rows k).mergeSort leC), rfl, rfl, atI_nat (j := 2) rfl, wo_none (wo_some (wd_int ⟨12, rfl, rsl_list .lst (.inr fun p hp => ?_)⟩))⟩⟩)))))) scBook.nd)
      have hG : Good k (((namedR cls rows k).mergeSort leC).take 12) := (good_named hk1 hk3).sub (List.take_sublist _ _)
      have e12 : cutD (((namedR cls rows k).mergeSort leC).map tI) none (some 12) = (((namedR cls rows k).mergeSort leC).take 12).map tI := by
        have : cutD (((namedR cls rows k).mergeSort leC).map tI) none (some ((12 : Nat) : Int)) = _ := cutD_to _ 12
        rw [List.map_take]; exact this
      rw [e12]
      have h12 : (((namedR cls rows k).mergeSort leC).take 12).length ≤ 12 := by rw [List.length_take]; omega
      generalize hbs : ((namedR cls rows k).mergeSort leC).take 12 = bs at hG h12
      have drA := dr.trans dr3
      have X0 : DX O3 (put O3 p (.lst (bs.map tI))) D p (.lst (bs.map tI)) := DX.init dr3.ok hp
      refine wss_cons (ws_if (wt_ww (ww_and (wt_cmp op_eq (wd_nm 3 rfl (wd_int (rr_eq rfl ⟨_, rfl, fun _ => ⟨(fun z => nomatch z), fun _ => wss_nil ?_⟩, fun z => by cases z⟩)))))))
      have fin : ∀ (E : EnD) O4 bs', E.rt = Ret Φ → DX O3 O4 D p (.lst (bs'.map tI)) → Good k bs' → WSs ⟨T, H0, O, H⟩ (cxOf CX0 P w K mg base ["_law_deal", "_law_most", "_law_kinds", "_law_form", "_law_batches", "_law_one", "_law_turn", "_law_batch"] "_law_book" (defScope sBook) f cdv A outer s H E0).nox
          ((ifBody ((defBody sBook).getD 1 (.Pass ⟨0, 0, 0, 0⟩))).drop 3) [some (R D), some (I 3), some (I (k : Int)), some (I 2), some (R p), none, none, none] O4 E := fun E O4 bs' hE X hg => by
        refine RS.freeze (i := 4) rfl X.at_ ?_
        exact wss_one (ws_ret (wd_tup (wa_two (wd_nm 2 rfl (wd_nm 4 rfl ⟨by simp, by rw [hE]; exact .same (φ k bs' _ hg (drA.trans X.dr))⟩)))))
      refine wss_cons (ws_if (wt_ww (ww_and (wt_cmp op_eq (wd_nm 3 rfl (wd_int (rr_eq rfl ⟨_, rfl, (fun z => by cases z), fun _ => ww_and1 (wt_cmp (op_neD hu) (wd_nm 4 rfl (wd_lst (wa_nil ⟨by simp, .inl (rr_neD (seeO X0.at_) seeP_nil ⟨_, rfl, fun q2 => ?_, fun q2 => wss_nil (fin _ _ bs rfl X0 hG)⟩)⟩))))⟩)))))))
      rw [eqv_nil, isE_map] at q2
      have hne : bs ≠ [] := fun z => by rw [z] at q2; cases q2
      have hpos : 0 < bs.length := List.length_pos_iff.mpr hne
      refine wss_one (ws_expr (wd_popAt (wd_nm 4 rfl ⟨p, rfl, ⟨_, X0.at_⟩, wd_call i0 (hr.mono (by decide)) (wa_two (wd_nm 0 rfl (wd_len t.len (wd_nm 4 rfl ⟨_, .inl (.own X0.at_), D, ((bs.map tI).length : Int), rfl, by rw [List.length_map]; omega, by rw [List.length_map]; omega, X0.ok, fun r O4 r0 r1 dr4 => ?_⟩))))⟩)))
      obtain ⟨j, rfl⟩ : ∃ j : Nat, r = (j : Int) := ⟨r.toNat, by omega⟩
      rw [List.length_map] at r1
      have hj : j < bs.length := by omega
      have X1 := X0.draw dr4
      refine ⟨j, bs.map tI, tI bs[j], rfl, X1.at_, by rw [List.length_map]; omega, by rw [List.getElem?_map, List.getElem?_eq_getElem hj]; rfl, ?_⟩
      rw [erase_map]
      exact fin _ _ (bs.eraseIdx j) rfl X1.put (hG.sub (List.eraseIdx_sublist bs j))
    · -- the other forms: the list is known
      refine wss_cons (ws_set 4 (wd_slice sl_list (wd_ixT (wd_call i3 hr (wa_two (wd_nm 0 rfl (wd_nm 2 rfl ⟨D, k, rfl, hk1, hk3, dr.ok, fun cls rows O3 NO dr3 => wd_int ⟨_, 2, lT ((namedR cls rows k).mergeSort leC), rfl, rfl, atI_nat (j := 2) rfl, wo_none (wo_some (wd_int ⟨12, rfl, rsl_list .lst (.inl ?_)⟩))⟩⟩)))))) scBook.nd)
      have hG : Good k (((namedR cls rows k).mergeSort leC).take 12) := (good_named hk1 hk3).sub (List.take_sublist _ _)
      have e12 : cutD (((namedR cls rows k).mergeSort leC).map tI) none (some 12) = (((namedR cls rows k).mergeSort leC).take 12).map tI := cut_to _ 12
      rw [e12]
      have h12 : (((namedR cls rows k).mergeSort leC).take 12).length ≤ 12 := by rw [List.length_take]; omega
      generalize hbs : ((namedR cls rows k).mergeSort leC).take 12 = bs at hG h12
      have drA := dr.trans dr3
      have fin : ∀ (E : EnD) O4 bs' y5, E.rt = Ret Φ → Draws O3 O4 D → Good k bs' → WSs ⟨T, H0, O, H⟩ (cxOf CX0 P w K mg base ["_law_deal", "_law_most", "_law_kinds", "_law_form", "_law_batches", "_law_one", "_law_turn", "_law_batch"] "_law_book" (defScope sBook) f cdv A outer s H E0).nox
          ((ifBody ((defBody sBook).getD 1 (.Pass ⟨0, 0, 0, 0⟩))).drop 2) [some (R D), some (I 3), some (I (k : Int)), some (I fm), some (lT bs'), y5, none, none] O4 E := fun E O4 bs' y5 hE X hg => by
        refine wss_cons (ws_if (wt_ww (ww_and (wt_cmp op_eq (wd_nm 3 rfl (wd_int (rr_eq rfl ⟨_, rfl, fun _ => ⟨(fun z => nomatch z), fun _ => wss_nil ?_⟩, fun z => ?_⟩)))))))
        · exact wss_one (ws_ret (wd_tup (wa_two (wd_nm 2 rfl (wd_nm 4 rfl ⟨by simp, by rw [hE]; exact .same (φ k bs' _ hg (drA.trans X))⟩)))))
        · have z := of_decide_eq_true z
          injection z with z
          exact absurd z hf2
      refine wss_cons (ws_if (wt_ww (ww_and (wt_cmp op_eq (wd_nm 3 rfl (wd_int (rr_eq rfl ⟨_, rfl, fun _ => ⟨(fun z => nomatch z), fun _ => wss_nil (fin _ _ bs _ rfl (.refl dr3.ok) hG)⟩, fun z => ww_and1 (wt_cmp op_gt (wd_len t.len (wd_nm 4 rfl ⟨_, .inl .lst, wd_int (rr_I0 ⟨_, rfl, fun q2 => ?_, fun _ => wss_nil (fin _ _ bs _ rfl (.refl dr3.ok) hG)⟩)⟩)))⟩)))))))
      have q2 : 1 < bs.length := by
        have := of_decide_eq_true q2
        rw [List.length_map] at this
        omega
      have hne : bs.map tI ≠ [] := fun z => by
        have := congrArg List.length z
        rw [List.length_map] at this
        simp at this
        rw [this] at q2; simp at q2
      refine wss_cons (ws_set 5 (wd_call i4 (hr.mono (by decide)) (wa_two (wd_call i1 (hr.mono (by decide)) (wa_two (wd_nm 0 rfl (wd_nm 4 rfl ⟨D, bs.map tI, rfl, hne, by rw [List.length_map]; omega, dr3.ok, fun x O4 hx dr4 => wd_call i1 (hr.mono (by decide)) (wa_two (wd_nm 0 rfl (wd_nm 4 rfl ⟨D, bs.map tI, rfl, hne, by rw [List.length_map]; omega, dr4.ok, fun y O5 hy dr5 => ?_⟩)))⟩)))))) scBook.nd)
      obtain ⟨a, ha, rfl⟩ := List.mem_map.mp hx
      obtain ⟨b, hb, rfl⟩ := List.mem_map.mp hy
      obtain ⟨a1, a2, a3, a4⟩ := hG.b a ha
      obtain ⟨b1, b2, b3, b4⟩ := hG.b b hb
      refine ⟨a, b, rfl, by rw [a1, b1], by omega, ?_⟩
      have dr45 := dr4.trans dr5
      have one_ok : (addC a b).length = k ∧ (∀ x ∈ addC a b, 0 ≤ x) ∧ 1 ≤ (addC a b).sum := by
        refine ⟨addC_len a1 b1, fun x hx => ?_, ?_⟩
        · unfold addC at hx
          obtain ⟨i, hi⟩ := List.getElem?_of_mem hx
          rw [List.getElem?_zipWith] at hi
          split at hi
          · rename_i u v e1 e2
            have := Option.some.inj hi
            have h1 := a2 u (List.mem_of_getElem? e1)
            have h2 := b2 v (List.mem_of_getElem? e2)
            omega
          · cases hi
        · rw [sum_zw_add (by rw [a1, b1])]; omega
      refine wss_one (ws_set 4 (wd_ifExp (wt_ww (ww_and (wt_cmp (op_notInD hu65) (wd_nm 5 rfl (wd_nm 4 rfl (rr_notInD (seeP_tI (addC a b)) (seeP_lT bs) ⟨_, rfl, fun q3 => ⟨(fun z => nomatch z), fun _ => wd_nm 4 rfl (fin _ _ bs _ rfl dr45 hG)⟩, fun q3 => ww_and1 (wt_cmp op_lt (wd_sumT t.sum (wd_nm 5 rfl ⟨addC a b, rfl, wd_int (rr_I0 ⟨_, rfl, fun q4 => ?_, fun q4 => wd_nm 4 rfl (fin _ _ bs _ rfl dr45 hG)⟩)⟩)))⟩))))))) scBook.nd)
      rw [any_tI] at q3
      have q3 : addC a b ∉ bs := by simpa using q3
      have q4 := of_decide_eq_true q4
      have hG2 : Good k ((bs ++ [addC a b]).mergeSort leC) := good_sort hk1 hk3 (fun x hx => by
        rcases List.mem_append.mp hx with h | h
        · exact hG.b x h
        · have h := List.mem_singleton.mp h
          subst h
          exact ⟨one_ok.1, one_ok.2.1, one_ok.2.2, by omega⟩) (by
        rw [List.nodup_append]
        exact ⟨hG.nd, by simp, fun x hx y hy e => by
          have hy : y = addC a b := by simpa using hy
          subst e; rw [hy] at hx; exact q3 hx⟩)
      refine wd_sortC t.sorted hu (wd_op op_cat (wd_nm 4 rfl (wd_lst (wa_1 (wd_nm 5 rfl ⟨by simp, .inl (rr_cat .lst .lst (by simp; omega) (.inl ⟨bs ++ [addC a b], ?_, fun c hc => ?_, .inl (fin _ _ _ _ rfl dr45 hG2)⟩))⟩)))))
      · rw [List.map_append]; exact .lst
      · intro z
        rcases List.mem_append.mp hc with h | h
        · have := (hG.b c h).1
          rw [z] at this; simp at this; omega
        · have h := List.mem_singleton.mp h
          rw [z] at h
          have := one_ok.1
          rw [← h] at this; simp at this; omega
  · refine wss_cons (ws_set 4 (wd_lst (wa_nil ⟨by simp, .inr fun p hp => ?_⟩)) scBook.nd)
    have X0 : DX O2 (put O2 p (.lst [])) D p (.lst []) := DX.init dr2.ok hp
    refine wss_cons (ws_for PassesOwn.never (pg_name (i := 6) scBook.nd rfl (by first | exact .inl rfl | exact .inr rfl) (by first | exact .inl rfl | exact .inr rfl)) (wi_range1 t.range (wd_call i0 (hr.mono (by decide)) (wa_two (wd_nm 0 rfl (wd_int ⟨D, 5, rfl, by decide, by decide, X0.ok, fun r2 O3 s0 s1 dr3 => ⟨r2, rfl, by omega, by omega, fun i Γ' O' => ∃ y6 y7 bs', Γ' = [some (R D), some (I 3), some (I (k : Int)), some (I fm), some (R p), none, y6, y7] ∧ DX O2 O' D p (.lst (bs'.map tI)) ∧ bs'.length ≤ i ∧ bs'.Nodup ∧ ∀ b ∈ bs', b.length = k ∧ (∀ x ∈ b, 0 ≤ x) ∧ 1 ≤ b.sum ∧ b.sum ≤ 8, ⟨_, _, [], rfl, X0.draw dr3, by simp, by simp, by simp⟩, fun _ _ _ _ => trivial, ?_, ?_⟩⟩))))))
    · rintro i d2 Γ' O' hi ⟨y6, y7, bs', rfl, X, hl, nd, hb⟩ hy
      refine rg_name (wss_cons (ws_set 7 (wd_call i1 (hr.mono (by decide)) (wa_two (wd_nm 0 rfl (wd_call i2 (hr.mono (by decide)) (wa_two (wd_nm 2 rfl (wd_op op_add (wd_int (wd_call i0 (hr.mono (by decide)) (wa_two (wd_nm 0 rfl (wd_int ⟨D, 4, rfl, by decide, by decide, X.ok, fun r3 O4 u0 u1 dr4 => rr_I0 ?_⟩)))))))))))) scBook.nd))
      obtain ⟨n, hn1, hn4, en⟩ : ∃ n : Nat, 1 ≤ n ∧ n ≤ 4 ∧ (1 + r3 : Int) = (n : Int) := ⟨(1 + r3).toNat, by omega, by omega, by omega⟩
      have hne : (crowdsL k n).map tI ≠ [] := fun z => by
        have h0 : crowdsL k n = [] := by simpa using z
        have : ((n : Int) :: List.replicate (k - 1) 0) ∈ crowdsL k n := (crowdsL_mem k n _ hk1).mpr ⟨by simp; omega, fun x hx => by
          rcases List.mem_cons.mp hx with h | h
          · omega
          · have := (List.mem_replicate.mp h).2; omega, by simp⟩
        rw [h0] at this
        simp at this
      have hcl : (crowdsL k n).length ≤ 729 := Nat.le_trans (crowdsL_len k n) (ppow (by omega) hk3)
      have X4 := X.draw dr4
      refine ⟨k, n, by rw [en], hk1, hk3, hk3, by omega, D, (crowdsL k n).map tI, rfl, hne, by rw [List.length_map]; omega, X4.ok, fun x O5 hx dr5 => ?_⟩
      obtain ⟨c, hc, rfl⟩ := List.mem_map.mp hx
      obtain ⟨c1, c2, c3⟩ := (crowdsL_mem k n c hk1).mp hc
      have X5 := X4.draw dr5
      refine wss_one (ws_if (wt_cmp (op_notInD hu65) (wd_nm 7 rfl (wd_nm 4 rfl (rr_notInD (seeP_tI c) (seeO X5.at_) ⟨_, rfl, fun q3 => ?_, fun q3 => wss_nil ⟨_, _, bs', rfl, X5, by omega, nd, hb⟩⟩)))))
      rw [any_tI] at q3
      have q3 : c ∉ bs' := by simpa using q3
      have hi5 : r2.toNat ≤ 5 := by omega
      refine wss_one (ws_expr (wd_append (wd_nm 4 rfl ⟨p, rfl, ⟨_, X5.at_⟩, wd_nm 7 rfl ⟨bs'.map tI, X5.at_, by rw [List.length_map]; omega, _, _, bs' ++ [c], rfl, ?_, by simp; omega, ?_, fun b hb' => ?_⟩⟩)))
      · have := X5.put (od' := .lst (bs'.map tI ++ [tI c]))
        rw [List.map_append]; exact this
      · rw [List.nodup_append]
        exact ⟨nd, by simp, fun x hx y hy e => by
          have hy : y = c := by simpa using hy
          subst e; rw [hy] at hx; exact q3 hx⟩
      · rcases List.mem_append.mp hb' with h | h
        · exact hb b h
        · have h := List.mem_singleton.mp h
          subst h
          exact ⟨c1, c2, by omega, by omega⟩
    · rintro Γ' O' ⟨y6, y7, bs', rfl, X, hl, nd, hb⟩
      have hg := good_sort hk1 hk3 hb nd
      refine wss_one (ws_ret (wd_tup (wa_two (wd_nm 2 rfl (wd_sortC t.sorted hu (wd_nm 4 rfl ⟨bs', .own X.at_, fun c hc => ?_, .inl ⟨by simp, .inl ⟨del O' p, sub_del, φ k _ _ hg (dr.trans X.dr)⟩⟩⟩))))))
      intro z
      have := (hb c hc).1
      rw [z] at this; simp at this; omega
end
end DL

set_option Elab.async false
set_option linter.all false
set_option maxRecDepth 100000
set_option maxHeartbeats 1000000
/-! WK11: what is told, crowds and costs drawn -/
namespace DL
open PySem PySem.Spec PyProof.Rows L2
def spTold : DSp := fun ds O Φ _ => ∃ D, ds = [R D] ∧ DealOk O D ∧ (∀ (k : Nat) cls rows O', 1 ≤ k → k ≤ 3 → NamesOk k cls rows → ((namedR cls rows k).mergeSort leC).length ≤ 8 → Draws O O' D → Φ (.tup [I (k : Int), lT ((namedR cls rows k).mergeSort leC), .lst (cls.map I), .lst (rows.map lI)]) O') ∧
  ∀ (k : Nat) bs O', Good k bs → bs.length ≤ 8 → Draws O O' D → Φ (.tup [I (k : Int), lT bs, N, N]) O'
def spCrowd : DSp := fun ds O Φ _ => ∃ (D : Addr) (k m : Nat), ds = [R D, I (k : Int), I (m : Int)] ∧ 1 ≤ k ∧ k ≤ 3 ∧ m ≤ 10 ∧ DealOk O D ∧ ∀ (c : List Int) O', c.length = k → (∀ x ∈ c, 0 ≤ x) → c.sum ≤ (m : Int) → Draws O O' D → Φ (tI c) O'
def spCosts : DSp := fun ds O Φ _ => ∃ (D : Addr) (k : Nat), ds = [R D, I (k : Int)] ∧ 1 ≤ k ∧ k ≤ 3 ∧ DealOk O D ∧ ∀ costs O', CostOk k costs → Draws O O' D → Φ (tI costs) O'
section
variable {P : Program} {w : World} {K : PySem.W.Frag} {mg : Str → Option Value} {base : Heap} {T : List (Addr × Str)} {cB cC cR cQ C : Addr}
theorem cTold (t : Tx K mg) (i0 : Cal P w K mg base T CX0 "_law_any" 1 ["_law_deal", "_law_bound"] spAny) (i1 : Cal P w K mg base T CX0 "_law_named" 5 ["_law_deal", "_law_kinds"] spNamed) (i2 : Cal P w K mg base T CX0 "_law_book" 6 ["_law_deal", "_law_most"] spBook)
    (d : Df K mg "_law_told" sTold ["_law_deal"]) : Cal P w K mg base T CX0 "_law_told" 7 ["_law_deal"] spTold := by
  refine calD d scTold (fun ds O Φ Ψ ⟨_, h, _⟩ => by rw [h]; rfl) fun f cdv A outer s H E0 H0 O ds Φ Ψ hr ⟨D, e, hD, φ1, φ2⟩ => ?_
  subst e
  have rest : ∀ (E : EnD) O1 y1 y2 y3 y4, E.rt = Ret Φ → Draws O O1 D → WSs ⟨T, H0, O, H⟩ (cxOf CX0 P w K mg base ["_law_deal", "_law_kinds", "_law_clocks", "_law_names", "_law_batches"] "_law_told" (defScope sTold) f cdv A outer s H E0).nox
      ((defBody sTold).drop 1) [some (R D), y1, y2, y3, y4] O1 E := fun E O1 y1 y2 y3 y4 hE dr => by
    refine wss_cons (ws_asg _ (pg2 1 4 scTold.nd) (wd_call i2 hr (wa_two (wd_nm 0 rfl (wd_int ⟨D, rfl, dr.ok, fun k bs O2 hg dr2 => ?_⟩)))))
    refine rg2 (wss_one (ws_ret (wd_tup (wa_cons (wd_nm 1 rfl (wa_cons (wd_slice sl_list (wd_nm 4 rfl (wo_none (wo_some (wd_int ⟨8, rfl, rsl_list .lst (.inl (wa_two (wd_non (wd_non ⟨by simp, ?_⟩))))⟩)))))))))))
    have e8 : cutD (bs.map tI) none (some 8) = (bs.take 8).map tI := cut_to bs 8
    rw [e8, hE]
    exact .same (φ2 k _ _ (hg.sub (List.take_sublist 8 bs)) (by rw [List.length_take]; omega) (dr.trans dr2))
  refine wss_cons (ws_if (wt_cmp op_eq (wd_call i0 (hr.mono (by decide)) (wa_two (wd_nm 0 rfl (wd_int ⟨D, 2, rfl, by decide, by decide, hD, fun r O1 r0 r1 dr1 => wd_int (rr_eq rfl ⟨_, rfl, fun q => ?_, fun q => wss_nil (rest _ _ _ _ _ _ rfl dr1)⟩)⟩))))))
  refine wss_cons (ws_set 1 (wd_op op_add (wd_int (wd_call i0 (hr.mono (by decide)) (wa_two (wd_nm 0 rfl (wd_int ⟨D, 3, rfl, by decide, by decide, dr1.ok, fun r2 O2 s0 s1 dr2 => rr_I0 ?_⟩)))))) scTold.nd)
  obtain ⟨k, hk1, hk3, ek⟩ : ∃ k : Nat, 1 ≤ k ∧ k ≤ 3 ∧ (1 + r2 : Int) = (k : Int) := ⟨(1 + r2).toNat, by omega, by omega, by omega⟩
  rw [ek]
  have dr := dr1.trans dr2
  refine wss_cons (ws_asg _ (pg3 2 3 4 scTold.nd) (wd_call i1 (hr.mono (by decide)) (wa_two (wd_nm 0 rfl (wd_nm 1 rfl ⟨D, k, rfl, hk1, hk3, dr.ok, fun cls rows O3 NO dr3 => rg3 ?_⟩)))))
  refine wss_one (ws_if (wt_cmp op_lt (wd_len t.len (wd_nm 4 rfl ⟨_, .inl .lst, wd_int (rr_I0 ⟨_, rfl, fun q => ?_, fun q => wss_nil (rest _ _ _ _ _ _ rfl (dr.trans dr3))⟩)⟩))))
  have q := of_decide_eq_true q
  rw [List.length_map] at q
  exact wss_one (ws_ret (wd_tup (wa_cons (wd_nm 1 rfl (wa_cons (wd_nm 4 rfl (wa_two (wd_nm 2 rfl (wd_nm 3 rfl ⟨by simp, .same (φ1 k cls rows O3 hk1 hk3 NO (by omega) (dr.trans dr3))⟩)))))))))
theorem incr_ok {c : List Int} {k j : Nat} (hc : c.length = k) (hn : ∀ x ∈ c, 0 ≤ x) (hj : j < k) : (c.take j ++ (g0 c j + 1) :: c.drop (j + 1)).length = k ∧ (∀ x ∈ c.take j ++ (g0 c j + 1) :: c.drop (j + 1), 0 ≤ x) ∧ (c.take j ++ (g0 c j + 1) :: c.drop (j + 1)).sum = c.sum + 1 := by
  have hj2 : j < c.length := by omega
  have ec : c = c.take j ++ c[j] :: c.drop (j + 1) := by rw [← List.drop_eq_getElem_cons hj2, List.take_append_drop]
  have eg : g0 c j = c[j] := by simp [g0, List.getD_eq_getElem?_getD, List.getElem?_eq_getElem hj2]
  refine ⟨by rw [List.length_append, List.length_cons, List.length_take, List.length_drop]; omega, fun x hx => ?_, ?_⟩
  · rcases List.mem_append.mp hx with h | h
    · exact hn x (List.mem_of_mem_take h)
    · rcases List.mem_cons.mp h with h | h
      · have := g0_nn hn j; omega
      · exact hn x (List.mem_of_mem_drop h)
  · have h2 : c.sum = (c.take j).sum + (c[j] + (c.drop (j + 1)).sum) := by
      conv => lhs; rw [ec]
      rw [List.sum_append, sum_cons_int]
    rw [List.sum_append, sum_cons_int, h2, eg]
    omega
theorem cCrowd (t : Tx K mg) (i0 : Cal P w K mg base T CX0 "_law_any" 1 ["_law_deal", "_law_bound"] spAny) (d : Df K mg "_law_crowd" sCrowd ["_law_deal", "_law_kinds", "_law_most"]) : Cal P w K mg base T CX0 "_law_crowd" 2 ["_law_deal", "_law_kinds", "_law_most"] spCrowd := by
  refine calD d scCrowd (fun ds O Φ Ψ ⟨_, _, _, h, _⟩ => by rw [h]; rfl) fun f cdv A outer s H E0 H0 O ds Φ Ψ hr ⟨D, k, m, e, hk1, hk3, hm, hD, φ⟩ => ?_
  subst e
  refine wss_cons (ws_set 3 (wd_op op_rep1 (wd_tup (wa_1 (wd_int ⟨by decide, wd_nm 1 rfl (rr_rep (by omega) (by omega) ?_)⟩)))) scCrowd.nd)
  rw [Int.toNat_natCast, repI]
  refine wss_cons (ws_for PassesOwn.never (pg_name (i := 4) scCrowd.nd rfl (by first | exact .inl rfl | exact .inr rfl) (by first | exact .inl rfl | exact .inr rfl)) (wi_range1 t.range (wd_call i0 hr (wa_two (wd_nm 0 rfl (wd_op op_add (wd_nm 2 rfl (wd_int (rr_I0 ⟨D, (m : Int) + 1, rfl, by omega, by omega, hD, fun r O1 r0 r1 dr1 => ⟨r, rfl, by omega, by omega, fun i Γ' O' => ∃ c y4 y5, Γ' = [some (R D), some (I (k : Int)), some (I (m : Int)), some (tI c), y4, y5] ∧ Draws O O' D ∧ c.length = k ∧ (∀ x ∈ c, 0 ≤ x) ∧ c.sum ≤ i, ⟨List.replicate k 0, _, _, rfl, dr1, by simp, fun x hx => ?_, ?_⟩, fun _ _ _ _ => trivial, ?_, ?_⟩⟩)))))))))
  · have := (List.mem_replicate.mp hx).2; omega
  · have : ∀ n : Nat, (List.replicate n (0 : Int)).sum = 0 := by
      intro n
      induction n with
      | zero => rfl
      | succ n ih => rw [List.replicate_succ, sum_cons_int, ih]; rfl
    rw [this]; exact Int.le_refl 0
  · rintro i d2 Γ' O' hi ⟨c, y4, y5, rfl, dr, c1, c2, c3⟩ hy
    refine rg_name (wss_cons (ws_set 5 (wd_call i0 hr (wa_two (wd_nm 0 rfl (wd_nm 1 rfl ⟨D, (k : Int), rfl, by omega, by omega, dr.ok, fun j O2 j0 j1 dr2 => ?_⟩)))) scCrowd.nd))
    obtain ⟨j, rfl⟩ : ∃ n : Nat, j = (n : Int) := ⟨j.toNat, by omega⟩
    have hj : j < k := by omega
    obtain ⟨n1, n2, n3⟩ := incr_ok c1 c2 hj
    have cj : c[j]? = some (g0 c j) := by
      have : j < c.length := by omega
      simp [g0, List.getD_eq_getElem?_getD, List.getElem?_eq_getElem this]
    refine wss_one (ws_set 3 (wd_op op_catA ?_) scCrowd.nd)
    refine wd_op op_catA (wd_slice sl_tupA (wd_nm 3 rfl (wo_none (wo_some (wd_nm 5 rfl ⟨(j : Int), rfl, rsl_tup ?_⟩)))))
    refine wd_tup (wa_1 (wd_op op_add (wd_ixT (wd_nm 3 rfl (wd_nm 5 rfl ⟨c.map I, (j : Int), I (g0 c j), rfl, rfl, atI_ofNat (mapI_get cj), wd_int (rr_I0 ⟨by simp, rr_catT ?_ ?_⟩)⟩)))))
    · rw [cutD_to]; simp; omega
    refine wd_slice sl_tupA (wd_nm 3 rfl (wo_some (wd_op op_add (wd_nm 5 rfl (wd_int (rr_I0 ⟨(j : Int) + 1, rfl, wo_none (rsl_tup (rr_catT ?_ ?_))⟩))))))
    · have e1 : ((j : Int) + 1) = ((j + 1 : Nat) : Int) := by omega
      rw [e1, cutD_to, cutD_from]; simp; omega
    · have e1 : ((j : Int) + 1) = ((j + 1 : Nat) : Int) := by omega
      refine ⟨c.take j ++ (g0 c j + 1) :: c.drop (j + 1), some d2, some (I (j : Int)), ?_, dr.trans dr2, n1, n2, by omega⟩
      rw [e1, cutD_to, cutD_from]
      have : (.tup ((List.take j (c.map I) ++ [I (g0 c j + 1)]) ++ List.drop (j + 1) (c.map I)) : Dat) = tI (c.take j ++ (g0 c j + 1) :: c.drop (j + 1)) := by
        show _ = Dat.tup _
        simp
      rw [← this]
      rfl
  · rintro Γ' O' ⟨c, y4, y5, rfl, dr, c1, c2, c3⟩
    exact wss_one (ws_ret (ret_val (wd_nm 3 rfl (φ c O' c1 c2 (by omega) dr))))
theorem cCosts (t : Tx K mg) (i0 : Cal P w K mg base T CX0 "_law_any" 1 ["_law_deal", "_law_bound"] spAny) (d : Df K mg "_law_costs" sCosts ["_law_deal", "_law_kinds"]) : Cal P w K mg base T CX0 "_law_costs" 2 ["_law_deal", "_law_kinds"] spCosts := by
  refine calD d scCosts (fun ds O Φ Ψ ⟨_, _, h, _⟩ => by rw [h]; rfl) fun f cdv A outer s H E0 H0 O ds Φ Ψ hr ⟨D, k, e, hk1, hk3, hD, φ⟩ => ?_
  subst e
  refine wss_cons (ws_set 2 (wd_call i0 hr (wa_two (wd_nm 0 rfl (wd_int ⟨D, 4, rfl, by decide, by decide, hD, fun r O1 r0 r1 dr1 => ?_⟩)))) scCosts.nd)
  refine wss_cons (ws_if (wt_cmp op_eq (wd_nm 2 rfl (wd_int (rr_eq rfl ⟨_, rfl, fun q => ?_, fun q => wss_nil ?_⟩)))))
  · refine wss_one (ws_ret (ret_val (wd_op op_rep1 (wd_tup (wa_1 (wd_int ⟨by decide, wd_nm 1 rfl (rr_rep (by omega) (by omega) ?_)⟩))))))
    rw [Int.toNat_natCast]
    have e1 : (.tup (List.replicate k (.v (.int 1))) : Dat) = tI (List.replicate k 1) := by
      show _ = Dat.tup _
      rw [List.map_replicate]
    rw [e1]
    exact φ _ O1 ⟨by simp, fun x hx => by have := (List.mem_replicate.mp hx).2; omega⟩ dr1
  · have q : r ≠ 0 := fun z => by rw [z] at q; simp at q
    obtain ⟨j, hj, ej⟩ : ∃ j : Nat, j < 3 ∧ r - 1 = (j : Int) := ⟨(r - 1).toNat, by omega, by omega⟩
    obtain ⟨m, hm, hm1, hm2⟩ : ∃ m : Int, ([3, 9, 1000] : List Int)[j]? = some m ∧ 1 ≤ m ∧ m ≤ 1000 := by
      match j, hj with
      | 0, _ => exact ⟨3, rfl, by decide, by decide⟩
      | 1, _ => exact ⟨9, rfl, by decide, by decide⟩
      | 2, _ => exact ⟨1000, rfl, by decide, by decide⟩
    refine wss_one (ws_ret (ret_val (wd_tupleOf t.tuple (wd_lc [("_law_kind", 3)] (gName 3) (gw_name (by decide)) scCosts.nd (blkOk_by (N := ["_law_deal", "_law_kinds", "_law_form", "_law_kind"]) (sc := defScope sCosts) (by decide +kernel)) (fun s H C cl fp => pg_name scCosts.nd rfl (by first | exact .inl rfl | exact .inr rfl) (by first | exact .inl rfl | exact .inr rfl)) (wi_range1 t.range (wd_nm 1 rfl ⟨(k : Int), rfl, by omega, by omega, ?_⟩))))))
    refine lcw_draw I (fun _ x => 1 ≤ x ∧ x ≤ 1000) D (by omega) dr1.ok (fun _ => trivial) (fun i di O2 hi dr2 hyi => ?_) (fun xs O2 hlx hxs dr2 => .inl ⟨_, .inl .lst, ?_⟩)
    · refine rg_name ⟨rfl, fun s0 H1 C0 cl fp => wd_op op_add (wd_int (wd_call i0 hr (wa_two (wd_nm 0 rfl (wd_ixL (wd_lst (wa_cons (wd_int (wa_two (wd_int (wd_int ⟨by simp, .inl ?_⟩)))))))))))⟩
      refine wd_op op_sub (wd_nm 2 rfl (wd_int (rr_I0 ⟨([3, 9, 1000] : List Int).map I, (j : Int), I m, .inl rfl, by rw [ej], atI_ofNat (mapI_get hm), D, m, rfl, hm1, by omega, dr2.ok, fun x O3 x0 x1 dr3 => rr_I0 ⟨⟨1 + x, rfl, by omega, by omega⟩, dr3⟩⟩)))
    · exact φ xs O2 ⟨by rw [hlx]; omega, fun x hx => by
        obtain ⟨j, hj⟩ := List.getElem?_of_mem hx
        exact hxs j x hj⟩ (dr1.trans dr2)
end
end DL

set_option Elab.async false
set_option linter.all false
set_option maxRecDepth 100000
set_option maxHeartbeats 1000000
/-! WK12: bad questions -/
namespace DL
open PySem PySem.Spec PyProof.Rows L2
abbrev sBad : Stmt := topS 47
theorem scBad : FnScope ["_law_deal", "_law_kinds", "_law_least", "_law_form", "_law_row", "_law_at", "_law_wrong", "_law_rest", "_law_kind", "_law_turn"] ["_law_deal", "_law_kinds", "_law_least"] (defScope sBad) := C8.fnScope_by (by decide +kernel)
/-- an int from l on -/
def pD (l : Int) : Dat → Bool
  | .v (.int n) => decide (l ≤ n)
  | _ => false
theorem pD_num : pD 0 = isNumD := by
  funext d
  cases d with
  | v x => cases x <;> rfl
  | _ => rfl
theorem pD_pos : pD 1 = isPosD := by
  funext d
  cases d with
  | v x =>
    cases x with
    | int n =>
      show decide (1 ≤ n) = decide (0 < n)
      by_cases h : 0 < n
      · rw [decide_eq_true h, decide_eq_true (by omega)]
      · rw [decide_eq_false h, decide_eq_false (by omega)]
    | _ => rfl
  | _ => rfl
/-- a question that is refused at a place -/
def Bad (l : Int) (k : Nat) (d : Dat) (at_ : Int) : Prop := seqOk d ∧ ∀ (ok : List Dat → Prop) (bad : Int → Prop), bad at_ → Chk (pD l) k d ok bad
theorem chk_none {l : Int} {k : Nat} {d : Dat} (h : seqD d = none) (ok : List Dat → Prop) (bad : Int → Prop) (hb : bad k) : Chk (pD l) k d ok bad := by
  unfold Chk; rw [h]; exact hb
theorem chk_len {l : Int} {k : Nat} {d : Dat} {xs : List Dat} (h : seqD d = some xs) (hp : ∀ x ∈ xs, pD l x = true) (hl : xs.length ≠ k) (ok : List Dat → Prop) (bad : Int → Prop) (hb : bad k) : Chk (pD l) k d ok bad := by
  unfold Chk; rw [h]
  exact ⟨fun i d' q1 q2 _ => absurd (hp d' (List.mem_of_getElem? q1)) (by simp [q2]), fun _ => ⟨fun _ => hb, fun q => absurd q hl⟩⟩
theorem chk_at {l : Int} {k : Nat} {d : Dat} {pre post : List Dat} {x : Dat} (h : seqD d = some (pre ++ x :: post)) (hp : ∀ y ∈ pre, pD l y = true) (hx : pD l x = false) (ok : List Dat → Prop) (bad : Int → Prop) (hb : bad (pre.length : Int)) : Chk (pD l) k d ok bad := by
  have hat : (pre ++ x :: post)[pre.length]? = some x := by rw [List.getElem?_append_right (Nat.le_refl _), Nat.sub_self]; rfl
  unfold Chk; rw [h]
  refine ⟨fun i d' q1 q2 q3 => ?_, fun q => absurd (q x (List.mem_append_right _ List.mem_cons_self)) (by simp [hx])⟩
  have : i = pre.length := by
    rcases Nat.lt_trichotomy i pre.length with g | g | g
    · rw [List.getElem?_append_left g] at q1
      have := hp d' (List.mem_of_getElem? q1)
      rw [q2] at this; cases this
    · exact g
    · have := q3 pre.length g x hat
      rw [hx] at this; cases this
  rw [this]; exact hb
theorem pD_ints {l : Int} {xs : List Int} (h : ∀ x ∈ xs, l ≤ x) : ∀ d ∈ xs.map I, pD l d = true := fun d hd => by
  obtain ⟨x, hx, rfl⟩ := List.mem_map.mp hd
  exact decide_eq_true (h x hx)
def spBad : DSp := fun ds O Φ _ => ∃ (D : Addr) (k : Nat) (l : Int), ds = [R D, I (k : Int), I l] ∧ 1 ≤ k ∧ k ≤ 3 ∧ 0 ≤ l ∧ l ≤ 1 ∧ DealOk O D ∧ ∀ d at_ O', Bad l k d at_ → Draws O O' D → Φ (.tup [d, I at_]) O'
section
variable {P : Program} {w : World} {K : PySem.W.Frag} {mg : Str → Option Value} {base : Heap} {T : List (Addr × Str)} {cB cC cR cQ C : Addr}
theorem cBad (t : Tx K mg) (i0 : Cal P w K mg base T CX0 "_law_any" 1 ["_law_deal", "_law_bound"] spAny) (i1 : Cal P w K mg base T CX0 "_law_of" 2 ["_law_deal", "_law_some"] spOf) (d : Df K mg "_law_bad" sBad ["_law_deal", "_law_kinds", "_law_least"]) :
    Cal P w K mg base T CX0 "_law_bad" 3 ["_law_deal", "_law_kinds", "_law_least"] spBad := by
  refine calD d scBad (fun ds O Φ Ψ ⟨_, _, _, h, _⟩ => by rw [h]; rfl) fun f cdv A outer s H E0 H0 O ds Φ Ψ hr ⟨D, k, l, e, hk1, hk3, hl0, hl1, hD, φ⟩ => ?_
  subst e
  refine wss_cons (ws_par 3 4 (wa_two (wd_call i0 (hr.mono (by decide)) (wa_two (wd_nm 0 rfl (wd_int ⟨D, 5, rfl, by decide, by decide, hD, fun fm O1 f0 f1 dr1 => wd_lc [("_law_kind", 8)] (gName 8) (gw_name (by decide)) scBad.nd (blkOk_by (N := ["_law_deal", "_law_kinds", "_law_least", "_law_form", "_law_row", "_law_at", "_law_wrong", "_law_rest", "_law_kind", "_law_turn"]) (sc := defScope sBad) (by decide +kernel)) (fun s H C cl fp => pg_name scBad.nd rfl (by first | exact .inl rfl | exact .inr rfl) (by first | exact .inl rfl | exact .inr rfl)) (wi_range1 t.range (wd_nm 1 rfl ⟨(k : Int), rfl, by omega, by omega, ?_⟩))⟩))))) scBad.nd)
  refine lcw_draw I (fun _ x => l ≤ x ∧ x ≤ 100) D (by omega) dr1.ok (fun _ => trivial) (fun i di O2 hi dr2 hyi => ?_) (fun row O2 hlr hrow dr2 => .inl ⟨_, _, rfl, ?_⟩)
  · exact rg_name ⟨rfl, fun s0 H1 C0 cl fp => wd_op op_add (wd_nm 2 rfl (wd_call i0 (hr.mono (by decide)) (wa_two (wd_nm 0 rfl (wd_int ⟨D, 5, rfl, by decide, by decide, dr2.ok, fun x O3 x0 x1 dr3 => rr_I0 ⟨⟨l + x, rfl, by omega, by omega⟩, dr3⟩⟩)))))⟩
  have dr := dr1.trans dr2
  have hlk : row.length = k := by rw [hlr]; omega
  have hmem : ∀ x ∈ row, l ≤ x := fun x hx => by
    obtain ⟨j, hj⟩ := List.getElem?_of_mem hx
    exact (hrow j x hj).1
  have okrow : ∀ xs : List Int, xs.length ≤ 1000 → seqOk (.lst (xs.map I)) := fun xs h => seqOk_lI h
  refine wss_cons (ws_if (wt_cmp op_eq (wd_nm 3 rfl (wd_int (rr_eq rfl ⟨_, rfl, fun q => ?_, fun q => wss_nil ?_⟩)))))
  · -- no sequence
    refine wss_one (ws_ret (wd_tup (wa_two (wd_call i1 (hr.mono (by decide)) (wa_two (wd_nm 0 rfl (wd_lst (wa_cons (wd_non (wa_cons (wd_int (wa_cons (wd_str (wa_two (wd_dictK (wd_bl ⟨by simp, .inl ⟨D, [N, I 3, S "12", .dic, B true], rfl, by simp, by simp, dr.ok, fun x O3 hx dr3 => wd_nm 1 rfl ⟨by simp, .same (φ x k O3 ⟨?_, ?_⟩ (dr.trans dr3))⟩⟩⟩))))))))))))))))
    · simp only [List.mem_cons, List.not_mem_nil, or_false] at hx
      rcases hx with e | e | e | e | e <;> subst e <;> exact ⟨rfl, fun xs h => by cases h⟩
    · simp only [List.mem_cons, List.not_mem_nil, or_false] at hx
      rcases hx with e | e | e | e | e <;> subst e <;> exact fun ok bad hb => chk_none rfl ok bad hb
  refine wss_cons (ws_if (wt_cmp op_eq (wd_nm 3 rfl (wd_int (rr_eq rfl ⟨_, rfl, fun q => ?_, fun q => wss_nil ?_⟩)))))
  · -- too long
    refine wss_one (ws_ret (wd_tup (wa_two (wd_op op_cat (wd_nm 4 rfl (wd_lc [("_law_turn", 9)] (gName 9) (gw_name (by decide)) scBad.nd (blkOk_by (N := ["_law_deal", "_law_kinds", "_law_least", "_law_form", "_law_row", "_law_at", "_law_wrong", "_law_rest", "_law_kind", "_law_turn"]) (sc := defScope sBad) (by decide +kernel)) (fun s H C cl fp => pg_name scBad.nd rfl (by first | exact .inl rfl | exact .inr rfl) (by first | exact .inl rfl | exact .inr rfl)) (wi_range1 t.range (wd_op op_add (wd_int (wd_call i0 (hr.mono (by decide)) (wa_two (wd_nm 0 rfl (wd_int ⟨D, 2, rfl, by decide, by decide, dr.ok, fun r O3 r0 r1 dr3 => rr_I0 ⟨1 + r, rfl, by omega, by omega, ?_⟩⟩)))))))))))))
    refine lcw_draw I (fun _ x => l ≤ x ∧ x ≤ 100) D (by omega) dr3.ok (fun _ => trivial) (fun i di O4 hi dr4 hyi => ?_) (fun more O4 hlm hmore dr4 => .inl ?_)
    · exact rg_name ⟨rfl, fun s0 H1 C0 cl fp => wd_op op_add (wd_nm 2 rfl (wd_call i0 (hr.mono (by decide)) (wa_two (wd_nm 0 rfl (wd_int ⟨D, 4, rfl, by decide, by decide, dr4.ok, fun x O5 x0 x1 dr5 => rr_I0 ⟨⟨l + x, rfl, by omega, by omega⟩, dr5⟩⟩)))))⟩
    have hm2 : ∀ x ∈ row ++ more, l ≤ x := fun x hx => by
      rcases List.mem_append.mp hx with h | h
      · exact hmem x h
      · obtain ⟨j, hj⟩ := List.getElem?_of_mem h
        exact (hmore j x hj).1
    have hml : more.length = 1 + r.toNat := by rw [hlm]; omega
    refine rr_cat .lst .lst (by simp; omega) (.inl (wd_nm 1 rfl ⟨by simp, .same ?_⟩))
    rw [← List.map_append]
    exact φ _ _ _ ⟨okrow _ (by simp; omega), chk_len rfl (pD_ints hm2) (by rw [List.length_map, List.length_append]; omega)⟩ ((dr.trans dr3).trans dr4)
  refine wss_cons (ws_if (wt_cmp op_eq (wd_nm 3 rfl (wd_int (rr_eq rfl ⟨_, rfl, fun q => ?_, fun q => wss_nil ?_⟩)))))
  · -- too short
    refine wss_one (ws_ret (wd_tup (wa_two (wd_tupleOf t.tuple (wd_slice sl_list (wd_nm 4 rfl (wo_some (wd_int ⟨1, rfl, wo_none (rsl_list .lst (.inl ⟨_, .inl .lst, wd_nm 1 rfl ⟨by simp, .same ?_⟩⟩))⟩))))))))
    have e1 : cutD (row.map I) (some 1) none = (row.drop 1).map I := by
      have : cutD (row.map I) (some ((1 : Nat) : Int)) none = _ := cutD_from (row.map I) 1
      rw [List.map_drop]; exact this
    rw [e1]
    exact φ _ _ _ ⟨seqOk_tI (by simp; omega), chk_len rfl (pD_ints fun x hx => hmem x (List.mem_of_mem_drop hx)) (by rw [List.length_map, List.length_drop]; omega)⟩ dr
  rename_i q0 q1
  rw [decV] at q0 q1 q
  have q0 := of_decide_eq_false q0
  have q1 := of_decide_eq_false q1
  have q := of_decide_eq_false q
  -- the place
  refine wss_cons (ws_set 5 (wd_call i0 (hr.mono (by decide)) (wa_two (wd_nm 0 rfl (wd_op op_add (wd_nm 1 rfl (rd_imp (Φ' := fun d O' => d = I (if fm = 3 then 1 else 0) ∧ O' = O2) (wd_ifExp (wt_cmp op_eq (wd_nm 3 rfl (wd_int (rr_eq rfl ⟨_, rfl, fun z => wd_int ⟨?_, rfl⟩, fun z => wd_int ⟨?_, rfl⟩⟩))))) ?_)))))) scBad.nd)
  · rw [decV] at z; rw [if_pos (of_decide_eq_true z)]
  · rw [decV] at z; rw [if_neg (of_decide_eq_false z)]
  rintro _ _ ⟨rfl, rfl⟩
  refine rr_I0 ⟨D, (k : Int) + (if fm = 3 then 1 else 0), rfl, by split <;> omega, by split <;> omega, dr.ok, fun a O3 a0 a1 dr3 => ?_⟩
  obtain ⟨j, rfl⟩ : ∃ j : Nat, a = (j : Int) := ⟨a.toNat, by omega⟩
  have hj : j ≤ k ∧ (fm ≠ 3 → j < k) := by split at a1 <;> omega
  have dr13 := dr.trans dr3
  -- the wrong one
  refine wss_cons (ws_set 6 (wd_call i1 (hr.mono (by decide)) (wa_two (wd_nm 0 rfl (wd_lst ?_)))) scBad.nd)
  refine wa_cons (wd_non (wa_cons (wd_bl (wa_cons (wd_bl (wa_cons (wd_str (wa_cons (wd_tup (wa_1 (wd_int ⟨by simp, ?_⟩)))))))))))
  refine wa_cons (wd_op op_sub (wd_nm 2 rfl (wd_int (rr_I0 (wa_two (wd_op op_sub (wd_nm 2 rfl (wd_int (rr_I0 (wd_un un_neg (wd_int (ru_neg ⟨by simp, .inl ⟨D, [N, B true, B false, S "1", .tup [I 1], I (l - 1), I (l - 1), I (-2)], rfl, by simp, by simp, dr13.ok, fun x O4 hx dr4 => ?_⟩⟩))))))))))))
  have hxw : pD l x = false ∧ okD x = true := by
    simp only [List.mem_cons, List.not_mem_nil, or_false] at hx
    rcases hx with e | e | e | e | e | e | e | e <;> subst e <;> first | exact ⟨rfl, rfl⟩ | exact ⟨decide_eq_false (by omega), rfl⟩
  have dr14 := dr13.trans dr4
  -- the rest
  have ej1 : ((j : Int) + 1) = ((j + 1 : Nat) : Int) := by omega
  refine wss_cons (ws_set 7 (rd_imp (Φ' := fun d O' => (∃ rest : List Int, d = .lst (rest.map I) ∧ rest.length ≤ 10) ∧ O' = O4) (wd_ifExp (wt_cmp op_eq (wd_nm 3 rfl (wd_int (rr_eq rfl ⟨_, rfl, fun z => wd_slice sl_list (wd_nm 4 rfl (wo_some (wd_nm 5 rfl ⟨(j : Int), rfl, wo_none (rsl_list .lst (.inl ⟨⟨row.drop j, ?_, ?_⟩, rfl⟩))⟩))), fun z => wd_slice sl_list (wd_nm 4 rfl (wo_some (wd_op op_add (wd_nm 5 rfl (wd_int (rr_I0 ⟨(j : Int) + 1, rfl, wo_none (rsl_list .lst (.inl ⟨⟨row.drop (j + 1), ?_, ?_⟩, rfl⟩))⟩))))))⟩))))) ?_) scBad.nd)
  · rw [cutD_from, List.map_drop]
  · rw [List.length_drop]; omega
  · rw [ej1, cutD_from, List.map_drop]
  · rw [List.length_drop]; omega
  rintro _ O4 ⟨⟨rest, rfl, hrest⟩, rfl⟩
  have tl : ((row.map I).take j).length = j := by rw [List.length_take, List.length_map]; omega
  refine wss_cons (ws_set 4 (wd_op op_cat (wd_op op_cat (wd_slice sl_list (wd_nm 4 rfl (wo_none (wo_some (wd_nm 5 rfl ⟨(j : Int), rfl, rsl_list .lst (.inl (wd_lst (wa_1 (wd_nm 6 rfl ⟨by simp, .inl (rr_cat .lst .lst ?_ (.inl (wd_nm 7 rfl (rr_cat .lst .lst ?_ (.inr fun p hp => ?_)))))⟩))))⟩))))))) scBad.nd)
  · rw [cutD_to, tl]; simp; omega
  · rw [cutD_to, List.length_append, tl]; simp; omega
  rw [cutD_to]
  have X0 : DX O4 (put O4 p (.lst ((row.map I).take j ++ [x] ++ rest.map I))) D p (.lst ((row.map I).take j ++ [x] ++ rest.map I)) := DX.init dr14.ok hp
  have fin : ∀ (E : EnD) O5 post y9, E.rt = Ret Φ → DX O4 O5 D p (.lst ((row.map I).take j ++ x :: post)) → post.length ≤ 100 → (∀ y ∈ post, okD y = true) → WSs ⟨T, H0, O, H⟩ (cxOf CX0 P w K mg base ["_law_deal", "_law_kinds", "_law_least", "_law_form", "_law_row", "_law_at", "_law_wrong", "_law_rest", "_law_kind", "_law_turn"] "_law_bad" (defScope sBad) f cdv A outer s H E0).nox
      ((defBody sBad).drop 9) [some (R D), some (I (k : Int)), some (I l), some (I fm), some (R p), some (I (j : Int)), some x, y9, none, none] O5 E := fun E O5 post y9 hE X hpl hpo => by
    refine RS.freeze (i := 4) rfl X.at_ ?_
    refine wss_one (ws_ret (wd_tup (wa_two (wd_nm 4 rfl (wd_nm 5 rfl ⟨by simp, ?_⟩)))))
    rw [hE]
    refine .same (φ _ _ _ ⟨⟨rfl, fun xs h => ?_⟩, fun ok bad hb => ?_⟩ (dr14.trans X.dr))
    · have h : (row.map I).take j ++ x :: post = xs := Option.some.inj h
      subst h
      refine ⟨by rw [List.length_append, tl, List.length_cons]; omega, fun y hy => ?_⟩
      rcases List.mem_append.mp hy with g | g
      · exact ok_ints row y (List.mem_of_mem_take g)
      · rcases List.mem_cons.mp g with g | g
        · rw [g]; exact hxw.2
        · exact hpo y g
    · refine chk_at rfl (fun y hy => pD_ints hmem y (List.mem_of_mem_take hy)) hxw.1 ok bad ?_
      rw [tl]; exact hb
  have e0 : (row.map I).take j ++ [x] ++ rest.map I = (row.map I).take j ++ x :: rest.map I := by simp
  rw [e0] at X0 ⊢
  refine wss_cons (ws_if (wt_cmp op_eq (wd_call i0 (hr.mono (by decide)) (wa_two (wd_nm 0 rfl (wd_int ⟨D, 3, rfl, by decide, by decide, X0.ok, fun r O5 r0 r1 dr5 => wd_int (rr_eq rfl ⟨_, rfl, fun z => ?_, fun z => wss_nil (fin _ _ _ _ rfl (X0.draw dr5) (by rw [List.length_map]; omega) (ok_ints rest))⟩)⟩))))))
  have X5 := X0.draw dr5
  refine wss_one (ws_expr (wd_append (wd_nm 4 rfl ⟨p, rfl, ⟨_, X5.at_⟩, wd_call i1 (hr.mono (by decide)) (wa_two (wd_nm 0 rfl (wd_lst (wa_cons (wd_non (wa_two (wd_un un_neg (wd_int (ru_neg (wd_bl ⟨by simp, .inl ⟨D, [N, I (-1), B true], rfl, by simp, by simp, X5.ok, fun y O6 hy dr6 => ?_⟩⟩))))))))))⟩)))
  have X6 := X5.draw dr6
  have hyo : okD y = true := by
    simp only [List.mem_cons, List.not_mem_nil, or_false] at hy
    rcases hy with e | e | e <;> subst e <;> rfl
  refine ⟨_, X6.at_, by rw [List.length_append, tl, List.length_cons, List.length_map]; omega, ?_⟩
  have e2 : ((row.map I).take j ++ x :: rest.map I) ++ [y] = (row.map I).take j ++ x :: (rest.map I ++ [y]) := by simp
  rw [e2]
  exact fin _ _ _ _ rfl X6.put (by rw [List.length_append, List.length_map]; simp; omega) fun z hz => by
    rcases List.mem_append.mp hz with g | g
    · exact ok_ints rest z g
    · have := List.mem_singleton.mp g
      rw [this]; exact hyo
end
end DL

set_option Elab.async false
set_option linter.all false
set_option maxRecDepth 100000
set_option maxHeartbeats 1000000
set_option pp.maxSteps 300
/-! WK13: _law_coming -/
namespace DL
open PySem PySem.Spec PyProof.Rows L2
abbrev sLComing : Stmt := topS 50
theorem scLComing : FnScope ["_law_batches", "_law_crowd_here", "_law_costs_here", "_law_best", "_law_fresh", "_law_later", "_law_need", "_law_batch", "_law_rest", "_law_cost_here", "_law_done"] ["_law_batches", "_law_crowd_here", "_law_costs_here"] (defScope sLComing) := C8.fnScope_by (by decide +kernel)
def spLComing : DSp := fun ds O Φ _ => ∃ k bs c costs, ds = [lT bs, tI c, tI costs] ∧ BookOk k bs ∧ bs.length ≤ 8 ∧ c.length = k ∧ (∀ x ∈ c, 0 ≤ x) ∧ c.sum ≤ 5 ∧ CostOk k costs ∧ ∀ r, CovOK bs costs c r → Φ (comD costs c r) O
theorem eqv_ne (a b : List Int) : (!PyData.eqv (toP (tI a)) (toP (tI b))) = !decide (a = b) := by rw [eqv_tI]
def forBody : Stmt → List Stmt
  | .For _ _ b _ _ => b
  | _ => []
def whBody : Stmt → List Stmt
  | .While _ b _ _ => b
  | _ => []
abbrev noSt : Stmt := .Pass ⟨0, 0, 0, 0⟩
theorem isSome_put {kvs : DD} {r d : List Int} {w : Dat} (h : (valD kvs d).isSome = true) : (valD (putD kvs r w) d).isSome = true := by
  by_cases e : d = r
  · rw [e, valD_put]; rfl
  · rw [valD_put_ne _ _ e]; exact h
section
variable {P : Program} {w : World} {K : PySem.W.Frag} {mg : Str → Option Value} {base : Heap} {T : List (Addr × Str)} {cB cC cR cQ C : Addr}
theorem cLComing (t : Tx K mg) (i0 : Cal P w K mg base T CX0 "_law_lacking" 1 ["_law_crowd_here", "_law_batch"] spLack) (i1 : Cal P w K mg base T CX0 "_law_cost" 1 ["_law_crowd_here", "_law_costs_here"] spLCost) (d : Df K mg "_law_coming" sLComing ["_law_batches", "_law_crowd_here", "_law_costs_here"]) :
    Cal P w K mg base T CX0 "_law_coming" 2 ["_law_batches", "_law_crowd_here", "_law_costs_here"] spLComing := by
  refine calD d scLComing (fun ds O Φ Ψ ⟨_, _, _, _, h, _⟩ => by rw [h]; rfl) fun f cdv A outer s H E0 H0 O ds Φ Ψ hr ⟨k, bs, c, costs, e, BO, hb8, hc, hcn, hcs, CO, φ⟩ => ?_
  subst e
  have hu : (A.deeper (envOfC "_law_coming" (defScope sLComing) s.heap.objs.size f cdv)).units + 64 < cLine := hr.units
  have hu1 : (A.deeper (envOfC "_law_coming" (defScope sLComing) s.heap.objs.size f cdv)).units + 1 < cLine := hu_of hr
  have hk1 := BO.k1
  have hk3 := BO.k3
  have hcostn : ∀ x ∈ costs, 0 ≤ x := fun x q => by have := CO.r x q; omega
  have hx6 : ∀ x ∈ c, 0 ≤ x ∧ x < 6 := fun x hx => by
    obtain ⟨j, hj⟩ := List.getElem?_of_mem hx
    have := g0_le_sum hcn j
    simp only [g0, List.getD_eq_getElem?_getD, hj, Option.getD_some] at this
    exact ⟨hcn x hx, by omega⟩
  refine wss_cons (ws_par 3 4 (wa_two (wd_dict1 hu1 fun B hB => wd_nm 1 rfl ⟨c, rfl, wd_int ⟨put_same, wd_lst (wa_1 (wd_nm 1 rfl ⟨by simp, .inl ⟨_, _, rfl, ?_⟩⟩))⟩⟩)) scLComing.nd)
  rw [put_put]
  -- what holds at each round
  refine wss_cons (ws_while PassesOwn.never (fun m Γ1 O1 => ∃ (fr : List (List Int)) (kvs : DD) (y5 y6 y7 y8 y9 : Option Dat), Γ1 = [some (lT bs), some (tI c), some (tI costs), some (R B), some (lT fr), y5, y6, y7, y8, y9, none] ∧ O1 B = some (oD kvs) ∧ (∀ a, a ≠ B → O a ≠ none → O1 a = O a) ∧ Bst k bs costs c kvs (fun d => d ∈ fr) ∧ m ≤ 6 ∧ fr.length ≤ 8 ^ (6 - m) ∧ ∀ d ∈ fr, (valD kvs d).isSome = true ∧ d.sum < m) 6
    ⟨[c], [(c, I 0)], none, none, none, none, none, rfl, put_same, fun a ha _ => put_ne ha, (Bst.init hc hx6).weak fun d hd => .inl fun z => hd (by rw [z]; exact List.mem_cons_self), Nat.le_refl _, by simp, fun d hd => by
      have hd : d = c := by simpa using hd
      subst hd
      exact ⟨by simp [valD], by omega⟩⟩ ?_)
  rintro m Γ1 O1 ⟨fr, kvs, y5, y6, y7, y8, y9, rfl, hB1, hO, BS, hm6, hfl, hfr⟩
  refine wt_cmp (op_neD hu) (wd_nm 4 rfl (wd_lst (wa_nil ⟨by simp, .inl (rr_neD (seeP_lT fr) seeP_nil ⟨_, rfl, fun q => ?_, fun q => ?_⟩)⟩)))
  · -- a round
    rw [eqv_nil, isE_map] at q
    have hne : fr ≠ [] := fun z => by rw [z] at q; cases q
    have nnk : ∀ {kvs : DD} {pd : List Int → Prop} {d : List Int}, Bst k bs costs c kvs pd → (valD kvs d).isSome = true → d.length = k ∧ ∀ x ∈ d, 0 ≤ x ∧ x < 6 := fun {kvs pd d} BS h => by
      obtain ⟨w, hw⟩ := Option.isSome_iff_exists.mp h
      exact BS.b _ (valD_mem hw)
    have hm1 : 1 ≤ m := by
      cases fr with
      | nil => exact absurd rfl hne
      | cons d0 r =>
        obtain ⟨h1, h2⟩ := hfr d0 List.mem_cons_self
        have := sum_nn fun x hx => ((nnk BS h1).2 x hx).1
        omega
    have hbl : ∀ {i : Nat} {b : List Int}, bs[i]? = some b → b.length = k ∧ (∀ x ∈ b, 0 ≤ x) ∧ ∀ x ∈ b, x ≤ 100 := fun h => ⟨(BO.b _ (List.mem_of_getElem? h)).1, (BO.b _ (List.mem_of_getElem? h)).2.1, BO.hi _ (List.mem_of_getElem? h)⟩
    refine wss_cons (ws_set 5 (wd_lst (wa_nil ⟨by simp, .inr fun p hp => ?_⟩)) scLComing.nd)
    have hpB : B ≠ p := fun z => by rw [← z, hB1] at hp; cases hp
    have hOp : O p = none := by
      cases e : O p with
      | none => rfl
      | some od => rw [hO p (Ne.symm hpB) (by rw [e]; exact fun z => by cases z), e] at hp; cases hp
    refine wss_cons (ws_for PassesOwn.never (pg_name (i := 6) scLComing.nd rfl (by first | exact .inl rfl | exact .inr rfl) (by first | exact .inl rfl | exact .inr rfl)) (wi_list (wd_nm 4 rfl ⟨fr.map tI, .lst, fun i Γ' O' => ∃ (la : List (List Int)) (kvs : DD) (y6 y7 y8 y9 : Option Dat), Γ' = [some (lT bs), some (tI c), some (tI costs), some (R B), some (lT fr), some (R p), y6, y7, y8, y9, none] ∧ O' B = some (oD kvs) ∧ O' p = some (.lst (la.map tI)) ∧ (∀ a, a ≠ B → O a ≠ none → O' a = O a) ∧
      Bst k bs costs c kvs (fun d => d ∈ fr.drop i ∨ d ∈ la) ∧ la.length ≤ i * 8 ∧ (∀ d ∈ fr, (valD kvs d).isSome = true) ∧ ∀ d ∈ la, (valD kvs d).isSome = true ∧ d.sum + 1 < m, ⟨[], kvs, y6, y7, y8, y9, rfl, by rw [put_ne hpB]; exact hB1, put_same, fun a h1 h2 => by rw [put_ne (fun z => h2 (by rw [z, hOp]))]; exact hO a h1 h2, BS.weak fun d hd => .inl fun z => hd (.inl z), by simp, fun d hd => (hfr d hd).1, by simp⟩, fun _ _ _ _ => .lst, ?_, ?_⟩)))
    · rintro i d2 Γ' O' hi ⟨la, kvs, y6, y7, y8, y9, rfl, hB1, hp1, hO, BS, hll, hfs, hla⟩ hy
      obtain ⟨need, hneed, e⟩ := tIs_get hy
      subst e
      have hnm := List.mem_of_getElem? hneed
      have hnf := hfr need hnm
      obtain ⟨n1, n2⟩ := nnk BS (hfs need hnm)
      obtain ⟨w0, hw0⟩ := Option.isSome_iff_exists.mp (hfs need hnm)
      obtain ⟨v, rfl⟩ := BS.val hw0
      have hil : i < fr.length := (List.getElem?_eq_some_iff.mp hneed).1
      have hdrop : fr.drop i = need :: fr.drop (i + 1) := by rw [List.drop_eq_getElem_cons hil]; congr 1; exact (List.getElem?_eq_some_iff.mp hneed).2
      refine rg_name (wss_one (ws_for PassesOwn.never (pg_name (i := 7) scLComing.nd rfl (by first | exact .inl rfl | exact .inr rfl) (by first | exact .inl rfl | exact .inr rfl)) (wi_list (wd_nm 0 rfl ⟨bs.map tI, .lst, fun t Γ' O' => ∃ (la : List (List Int)) (kvs : DD) (y7 y8 y9 : Option Dat), Γ' = [some (lT bs), some (tI c), some (tI costs), some (R B), some (lT fr), some (R p), some (tI need), y7, y8, y9, none] ∧ O' B = some (oD kvs) ∧ O' p = some (.lst (la.map tI)) ∧ (∀ a, a ≠ B → O a ≠ none → O' a = O a) ∧
        Bst k bs costs c kvs (fun d => d ∈ fr.drop i ∨ d ∈ la) ∧ la.length ≤ i * 8 + t ∧ (∀ d ∈ fr, (valD kvs d).isSome = true) ∧ (∀ d ∈ la, (valD kvs d).isSome = true ∧ d.sum + 1 < m) ∧ valD kvs need = some (I v) ∧ ∀ b ∈ bs.take t, Edge kvs costs need v b, ⟨la, kvs, y7, y8, y9, rfl, hB1, hp1, hO, BS, by omega, hfs, hla, hw0, by simp⟩, fun _ _ _ _ => .lst, ?_, ?_⟩))))
      · rintro t d3 Γ' O' ht ⟨la, kvs, y7, y8, y9, rfl, hB1, hp1, hO, BS, hll, hfs, hla, hv, hed⟩ hy
        obtain ⟨b, hb, e⟩ := tIs_get hy
        subst e
        obtain ⟨b1, b2, b3⟩ := hbl hb
        have hbat : bat bs t = b := bat_get hb
        have htl : t < bs.length := (List.getElem?_eq_some_iff.mp hb).1
        have htk : ∀ x ∈ bs.take (t + 1), x ∈ bs.take t ∨ x = b := fun x hx => by
          rw [List.take_add_one, hb] at hx
          rcases List.mem_append.mp hx with g | g
          · exact .inl g
          · exact .inr (by simpa using g)
        refine rg_name (wss_cons (ws_par 8 9 (wa_two (wd_call i0 hr (wa_two (wd_nm 6 rfl (wd_nm 7 rfl ⟨need, b, rfl, by rw [n1, b1], by omega, fun y hy => ⟨b2 y hy, by have := b3 y hy; omega⟩, wd_op op_add (wd_dget hu1 (wd_nm 3 rfl (wd_nm 6 rfl ⟨B, kvs, need, I v, rfl, rfl, hB1, hv, wd_call i1 hr (wa_two (wd_nm 7 rfl (wd_nm 2 rfl ⟨b, costs, rfl, by rw [b1, CO.l], by omega, fun y hy => ⟨hcostn y hy, by have := CO.r y hy; omega⟩, rr_I0 ⟨_, _, rfl, ?_⟩⟩)))⟩)))⟩))))) scLComing.nd))
        have skip : Edge kvs costs need v b → ∀ x ∈ bs.take (t + 1), Edge kvs costs need v x := fun h x hx => (htk x hx).elim (hed x) fun e => e ▸ h
        have same : ∀ hE : Edge kvs costs need v b, ∃ (la : List (List Int)) (kvs : DD) (y7 y8 y9 : Option Dat), [some (lT bs), some (tI c), some (tI costs), some (R B), some (lT fr), some (R p), some (tI need), some (tI b), some (tI (lackC need b)), some (I (v + dot b costs)), none] = [some (lT bs), some (tI c), some (tI costs), some (R B), some (lT fr), some (R p), some (tI need), y7, y8, y9, none] ∧ O' B = some (oD kvs) ∧ O' p = some (.lst (la.map tI)) ∧ (∀ a, a ≠ B → O a ≠ none → O' a = O a) ∧
            Bst k bs costs c kvs (fun d => d ∈ fr.drop i ∨ d ∈ la) ∧ la.length ≤ i * 8 + (t + 1) ∧ (∀ d ∈ fr, (valD kvs d).isSome = true) ∧ (∀ d ∈ la, (valD kvs d).isSome = true ∧ d.sum + 1 < m) ∧ valD kvs need = some (I v) ∧ ∀ b ∈ bs.take (t + 1), Edge kvs costs need v b :=
          fun hE => ⟨la, kvs, _, _, _, rfl, hB1, hp1, hO, BS, by omega, hfs, hla, hv, skip hE⟩
        have better : lackC need b ≠ need → (valD kvs (lackC need b) = none ∨ ∃ w, valD kvs (lackC need b) = some (I w) ∧ v + dot b costs ≤ w) → ∀ E : EnD, (∀ Γ3 O3, (∃ (la : List (List Int)) (kvs : DD) (y7 y8 y9 : Option Dat), Γ3 = [some (lT bs), some (tI c), some (tI costs), some (R B), some (lT fr), some (R p), some (tI need), y7, y8, y9, none] ∧ O3 B = some (oD kvs) ∧ O3 p = some (.lst (la.map tI)) ∧ (∀ a, a ≠ B → O a ≠ none → O3 a = O a) ∧
            Bst k bs costs c kvs (fun d => d ∈ fr.drop i ∨ d ∈ la) ∧ la.length ≤ i * 8 + (t + 1) ∧ (∀ d ∈ fr, (valD kvs d).isSome = true) ∧ (∀ d ∈ la, (valD kvs d).isSome = true ∧ d.sum + 1 < m) ∧ valD kvs need = some (I v) ∧ ∀ b ∈ bs.take (t + 1), Edge kvs costs need v b) → E.nx Γ3 O3) →
            WSs ⟨T, H0, O, H⟩ (cxOf CX0 P w K mg base ["_law_batches", "_law_crowd_here", "_law_costs_here", "_law_best", "_law_fresh", "_law_later", "_law_need", "_law_batch", "_law_rest", "_law_cost_here", "_law_done"] "_law_coming" (defScope sLComing) f cdv A outer s H E0).nox
            (ifBody ((forBody ((forBody ((whBody ((defBody sLComing).getD 1 noSt)).getD 1 noSt)).getD 0 noSt)).getD 1 noSt)) [some (lT bs), some (tI c), some (tI costs), some (R B), some (lT fr), some (R p), some (tI need), some (tI b), some (tI (lackC need b)), some (I (v + dot b costs)), none] O' E := fun hne2 hrr E hE => by
          have hst := lack_strict (d := need) (b := b) (by rw [n1, b1]) (fun x hx => (n2 x hx).1) b2 hne2
          have hrn := sum_nn (a := lackC need b) lack_nn
          have hm2 : 2 ≤ m := by omega
          have hp4 : fr.length ≤ 4096 := Nat.le_trans hfl (Nat.pow_le_pow_right (by decide) (show 6 - m ≤ 4 by omega))
          have BSp := BS.put BO.toBatOk htl hv (by rw [hbat]; exact hrr)
          rw [hbat] at BSp
          refine wss_cons (ws_dput hu1 (wd_nm 9 rfl (wd_nm 3 rfl (wd_nm 8 rfl ⟨B, kvs, lackC need b, rfl, rfl, hB1, BS.len hk3, ?_⟩))))
          have hp2 : (put O' B (oD (putD kvs (lackC need b) (I (v + dot b costs))))) p = some (.lst (la.map tI)) := by rw [put_ne (Ne.symm hpB)]; exact hp1
          refine wss_one (ws_expr (wd_append (wd_nm 5 rfl ⟨p, rfl, ⟨_, hp2⟩, wd_nm 8 rfl ⟨la.map tI, hp2, by rw [List.length_map]; omega, hE _ _ ⟨la ++ [lackC need b], putD kvs (lackC need b) (I (v + dot b costs)), some (tI b), some (tI (lackC need b)), some (I (v + dot b costs)), rfl, ?_, ?_, ?_, ?_, ?_, ?_, ?_, ?_, ?_⟩⟩⟩)))
          · rw [put_ne hpB]; exact put_same
          · rw [put_same, List.map_append]; rfl
          · intro a h1 h2
            rw [put_ne (fun z => h2 (by rw [z, hOp])), put_ne h1]; exact hO a h1 h2
          · refine BSp.weak fun d hd => .inl fun z => hd ?_
            rcases z with (z | z) | z
            · exact .inl z
            · exact .inr (List.mem_append_left _ z)
            · exact .inr (List.mem_append_right _ (by rw [z]; exact List.mem_cons_self))
          · simp; omega
          · exact fun d hd => isSome_put (hfs d hd)
          · intro d hd
            rcases List.mem_append.mp hd with g | g
            · exact ⟨isSome_put (hla d g).1, (hla d g).2⟩
            · have g := List.mem_singleton.mp g
              subst g
              exact ⟨by rw [valD_put]; rfl, by omega⟩
          · rw [valD_put_ne _ _ (Ne.symm hne2)]; exact hv
          · intro x hx
            rcases htk x hx with g | g
            · exact edge_put (hed x g) hrr
            · subst g
              exact .inr ⟨_, valD_put _ _ _, Int.le_refl _⟩
        refine wss_one (ws_if (wt_ww (ww_and (wt_cmp (op_neD hu) (wd_nm 8 rfl (wd_nm 6 rfl (rr_neD (seeP_tI (lackC need b)) (seeP_tI need) ⟨_, rfl, fun q2 => ⟨(fun z => nomatch z), fun _ => wss_nil (same (.inl ?_))⟩, fun q2 => ww_and1 (wt_ww (ww_or (wt_dnotin hu1 (wd_nm 8 rfl (wd_nm 3 rfl ⟨B, kvs, lackC need b, rfl, rfl, hB1, fun q3 => ⟨fun _ => better ?_ (.inl ?_) _ fun _ _ z => z, (fun z => nomatch z)⟩, fun q3 => ww_or1 ?_⟩)))))⟩)))))))
        · rw [eqv_tI] at q2; simpa using q2
        · rw [eqv_tI] at q2; simpa using q2
        · cases h : valD kvs (lackC need b) with
          | none => rfl
          | some _ => rw [h] at q3; cases q3
        · obtain ⟨w1, hw1⟩ : ∃ w1, valD kvs (lackC need b) = some w1 := by
            cases h : valD kvs (lackC need b) with
            | none => rw [h] at q3; cases q3
            | some w1 => exact ⟨w1, rfl⟩
          obtain ⟨v1, rfl⟩ := BS.val hw1
          rw [eqv_tI] at q2
          have q2 : lackC need b ≠ need := by simpa using q2
          refine wt_cmp op_lt (wd_nm 9 rfl (wd_dget hu1 (wd_nm 3 rfl (wd_nm 8 rfl ⟨B, kvs, lackC need b, I v1, rfl, rfl, hB1, hw1, rr_I0 ⟨_, rfl, fun q4 => better q2 (.inr ⟨v1, hw1, ?_⟩) _ fun _ _ z => z, fun q4 => wss_nil (same (.inr ⟨v1, hw1, ?_⟩))⟩⟩))))
          · have := of_decide_eq_true q4; omega
          · have := of_decide_eq_false q4; omega
      · rintro Γ' O' ⟨la, kvs, y7, y8, y9, rfl, hB1, hp1, hO, BS, hll, hfs, hla, hv, hed⟩
        rw [List.length_map] at hll hed
        rw [List.take_length] at hed
        refine ⟨la, kvs, _, _, _, _, rfl, hB1, hp1, hO, BS.weak fun d hd => ?_, by omega, hfs, hla⟩
        by_cases e : d = need
        · subst e
          refine .inr fun v' hv' => ?_
          rw [hv] at hv'
          have hv' := Option.some.inj hv'
          injection hv' with hv'
          injection hv' with hv'
          subst hv'
          exact hed
        · refine .inl fun z => hd ?_
          rcases z with z | z
          · rw [hdrop] at z
            rcases List.mem_cons.mp z with z | z
            · exact absurd z e
            · exact .inl z
          · exact .inr z
    · rintro Γ' O' ⟨la, kvs, y6, y7, y8, y9, rfl, hB1, hp1, hO, BS, hll, hfs, hla⟩
      rw [List.length_map] at hll BS
      refine RS.freeze (i := 5) rfl hp1 ?_
      refine wss_one (ws_set 4 (wd_nm 5 rfl ⟨m - 1, by omega, la, kvs, _, _, _, _, _, rfl, by rw [del_ne hpB]; exact hB1, fun a h1 h2 => by rw [del_ne (fun z => h2 (by rw [z, hOp]))]; exact hO a h1 h2, BS.weak fun d hd => .inl fun z => ?_, by omega, ?_, fun d hd => ⟨(hla d hd).1, by have := (hla d hd).2; omega⟩⟩) scLComing.nd)
      · rcases z with z | z
        · rw [List.drop_length] at z; simp at z
        · exact hd z
      · have e : 6 - (m - 1) = (6 - m) + 1 := by omega
        rw [e, Nat.pow_succ]
        exact Nat.le_trans hll (Nat.mul_le_mul_right 8 hfl)
  · -- the end
    rw [eqv_nil, isE_map] at q
    have hfr0 : fr = [] := by cases fr with
      | nil => rfl
      | cons _ _ => cases q
    subst hfr0
    have BS0 := BS.weak (q := fun _ => False) fun d _ => .inl fun z => by simp at z
    obtain ⟨r, hr0⟩ := covOK_ex (costs := costs) BO.toBatOk hcostn 5 c (by omega) hc hcn
    have ans := BS0.ans BO.toBatOk hcostn hc hr0
    have hrep : (List.replicate c.length (.v (.int 0)) : List Dat) = (List.replicate k (0 : Int)).map I := by rw [hc, List.map_replicate]
    refine wss_cons (ws_set 10 (wd_op op_rep1 (wd_tup (wa_1 (wd_int ⟨by decide, wd_len t.len (wd_nm 1 rfl ⟨_, .inr rfl, rr_rep (by rw [List.length_map]; omega) (by rw [List.length_map]; omega) ?_⟩)⟩)))) scLComing.nd)
    rw [Int.toNat_natCast, List.length_map, hrep]
    refine wss_one (ws_ret (wd_ifExp (wt_din hu1 (wd_nm 10 rfl (wd_nm 3 rfl ⟨B, kvs, List.replicate k 0, rfl, rfl, hB1, fun q2 => ?_, fun q2 => ?_⟩)))))
    · cases r with
      | none => rw [ans] at q2; cases q2
      | some e =>
        refine wd_op op_sub (wd_dget hu1 (wd_nm 3 rfl (wd_nm 10 rfl ⟨B, kvs, List.replicate k 0, I e.1, rfl, rfl, hB1, by rw [ans]; rfl, wd_call i1 hr (wa_two (wd_nm 1 rfl (wd_nm 2 rfl ⟨c, costs, rfl, by rw [hc, CO.l], by omega, fun y hy => ⟨hcostn y hy, by have := CO.r y hy; omega⟩, rr_I0 (.inl ⟨O, fun a od ha => ?_, φ _ hr0⟩)⟩)))⟩)))
        rw [hO a (fun z => by rw [z, hB] at ha; cases ha) (by rw [ha]; exact fun z => by cases z)]; exact ha
    · cases r with
      | some e => rw [ans] at q2; cases q2
      | none => exact wd_non (.inl ⟨O, fun a od ha => by rw [hO a (fun z => by rw [z, hB] at ha; cases ha) (by rw [ha]; exact fun z => by cases z)]; exact ha, φ _ hr0⟩)
end
end DL

set_option Elab.async false
set_option linter.all false
set_option maxRecDepth 100000
set_option maxHeartbeats 1000000
/-! PL3: what clears -/
namespace DL
open PySem PySem.Spec PyProof.Rows L2
def Clr (bs : List (List Int)) (d : List Int) : Prop := ∃ run, okIdx bs run ∧ ∀ j, g0 d j = colRun bs j run
theorem sub_g0 {a b : List Int} (h : a.length = b.length) (j : Nat) : g0 (subC a b) j = g0 a j - g0 b j := by
  by_cases hj : j < a.length
  · exact g0_zw h hj
  · rw [g0_out (a := a) (by omega), g0_out (a := b) (by omega), g0_out (by simp [subC]; omega)]; omega
theorem add_g0 {a b : List Int} (h : a.length = b.length) (j : Nat) : g0 (addC a b) j = g0 a j + g0 b j := by
  by_cases hj : j < a.length
  · exact g0_zw h hj
  · rw [g0_out (a := a) (by omega), g0_out (a := b) (by omega), g0_out (by simp [addC]; omega)]; omega
theorem sum_sub : ∀ {a b : List Int}, a.length = b.length → (subC a b).sum = a.sum - b.sum
  | [], [], _ => by simp [subC]
  | x :: a, y :: b, h => by
    have h : a.length = b.length := by simpa using h
    have := sum_sub h
    unfold subC at this ⊢
    rw [List.zipWith_cons_cons, sum_cons_int, sum_cons_int, sum_cons_int, this]
    omega
  | [], _ :: _, h => by simp at h
  | _ :: _, [], h => by simp at h
theorem clr_step {k : Nat} {bs : List (List Int)} (B : BatOk k bs) {d : List Int} (hd : d.length = k) (h : Clr bs d) {j : Nat} (hj : 0 < g0 d j) : ∃ b ∈ bs, 0 < g0 b j ∧ leCr b d = true ∧ Clr bs (subC d b) := by
  obtain ⟨run, h1, h2⟩ := h
  have hp : 0 < ((run.map fun i => g0 (bat bs i) j)).sum := by have := h2 j; unfold colRun at this; omega
  obtain ⟨x, hx, hx0⟩ := sum_pos_ex hp
  obtain ⟨i, hi, rfl⟩ := List.mem_map.mp hx
  obtain ⟨l1, l2, rfl⟩ := List.append_of_mem hi
  obtain ⟨i1, i2⟩ := okIdx_split h1
  obtain ⟨b1, b2, b3⟩ := B.b _ (bat_mem i1)
  refine ⟨_, bat_mem i1, hx0, (leCr_iff (by rw [hd, b1])).mpr fun j' => ?_, l1 ++ l2, i2, fun j' => ?_⟩
  · have e := h2 j'
    rw [col_split] at e
    have := col_nn (fun b hb => (B.b b hb).2.1) i2 j'
    omega
  · have e := h2 j'
    rw [col_split] at e
    rw [sub_g0 (by rw [hd, b1])]
    omega
structure Cst (k : Nat) (bs : List (List Int)) (c : List Int) (kvs : DD) (pend : List Int → Prop) : Prop where
  b : ∀ kv ∈ kvs, kv.1.length = k ∧ ∀ x ∈ kv.1, 0 ≤ x ∧ x < 41
  nd : (kvs.map (·.1)).Nodup
  cc : (valD kvs c).isSome = true
  ed : ∀ d, (valD kvs d).isSome = true → Clr bs d → pend d ∨ ∃ d', (valD kvs d').isSome = true ∧ Clr bs d' ∧ d'.sum < d.sum
section
variable {k : Nat} {bs : List (List Int)} {c : List Int} {kvs : DD} {pend : List Int → Prop}
theorem Cst.key (h : Cst k bs c kvs pend) {d : List Int} (hd : (valD kvs d).isSome = true) : d.length = k ∧ ∀ x ∈ d, 0 ≤ x ∧ x < 41 := by
  obtain ⟨w, hw⟩ := Option.isSome_iff_exists.mp hd
  exact h.b _ (valD_mem hw)
theorem Cst.len (h : Cst k bs c kvs pend) (hk : k ≤ 3) : kvs.length < 70000 := by
  have := box_len (M := 41) (k := k) h.nd fun c hc => by
    obtain ⟨kv, hkv, rfl⟩ := List.mem_map.mp hc
    exact h.b kv hkv
  rw [List.length_map] at this
  have h2 : 41 ^ k ≤ 41 ^ 3 := Nat.pow_le_pow_right (by decide) hk
  omega
theorem Cst.init {w : Dat} (hc : c.length = k) (hx : ∀ x ∈ c, 0 ≤ x ∧ x < 41) : Cst k bs c [(c, w)] (fun d => d = c) := by
  refine ⟨fun kv h => ?_, by simp, by simp [valD], fun d hd _ => ?_⟩
  · have h := List.mem_singleton.mp h
    subst h
    exact ⟨hc, hx⟩
  · obtain ⟨w, hw⟩ := Option.isSome_iff_exists.mp hd
    have := List.mem_singleton.mp (valD_mem hw)
    injection this with h1 _
    exact .inl h1
theorem Cst.weak {p q : List Int → Prop} (h : Cst k bs c kvs p) (i : ∀ d, (valD kvs d).isSome = true → Clr bs d → p d → q d ∨ ∃ d', (valD kvs d').isSome = true ∧ Clr bs d' ∧ d'.sum < d.sum) : Cst k bs c kvs q :=
  ⟨h.b, h.nd, h.cc, fun d hd hc => (h.ed d hd hc).elim (fun g => i d hd hc g) .inr⟩
theorem Cst.put (h : Cst k bs c kvs pend) {r : List Int} {w : Dat} (hl : r.length = k) (hx : ∀ x ∈ r, 0 ≤ x ∧ x < 41) : Cst k bs c (putD kvs r w) (fun d => pend d ∨ d = r) := by
  refine ⟨fun kv hk => ?_, putD_nodup h.nd, isSome_put h.cc, fun d hd hc => ?_⟩
  · rcases putD_mem hk with e | e
    · subst e; exact ⟨hl, hx⟩
    · exact h.b kv e
  · by_cases e : d = r
    · exact .inl (.inr e)
    · rw [valD_put_ne _ _ e] at hd
      rcases h.ed d hd hc with g | ⟨d', g1, g2, g3⟩
      · exact .inl (.inl g)
      · exact .inr ⟨d', isSome_put g1, g2, g3⟩
theorem Cst.none (h : Cst k bs c kvs (fun _ => False)) : ∀ (n : Nat) (d : List Int), d.sum < n → (valD kvs d).isSome = true → Clr bs d → False
  | 0, d, hs, hd, hc => by
    have := sum_nn fun x hx => ((h.key hd).2 x hx).1
    omega
  | n + 1, d, hs, hd, hc => by
    rcases h.ed d hd hc with g | ⟨d', g1, g2, g3⟩
    · exact g
    · exact Cst.none h n d' (by omega) g1 g2
theorem pos_ints (d : List Int) : ∀ l : List Nat, ∃ L : List Int, l.filterMap (posD d) = L.map I
  | [] => ⟨[], rfl⟩
  | i :: l => by
    obtain ⟨L, hL⟩ := pos_ints d l
    rw [List.filterMap_cons]
    unfold posD
    cases d[i]? with
    | none => exact ⟨L, hL⟩
    | some x =>
      by_cases hx : 0 < x
      · simp only [Option.bind_some, if_pos hx]
        exact ⟨(i : Int) :: L, by rw [List.map_cons, ← hL]; rfl⟩
      · simp only [Option.bind_some, if_neg hx]
        exact ⟨L, hL⟩
end
end DL

set_option Elab.async false
set_option linter.all false
set_option maxRecDepth 100000
set_option maxHeartbeats 1000000
set_option pp.maxSteps 300
/-! WK14: _law_clear -/
namespace DL
open PySem PySem.Spec PyProof.Rows L2
abbrev sLClear : Stmt := topS 51
theorem scLClear : FnScope ["_law_batches", "_law_crowd_here", "_law_seen", "_law_fresh", "_law_later", "_law_waiting", "_law_kinds", "_law_batch", "_law_rest", "_law_kind", "_law_x", "_law_one"] ["_law_batches", "_law_crowd_here"] (defScope sLClear) := C8.fnScope_by (by decide +kernel)
def spLClear : DSp := fun ds O Φ _ => ∃ k bs c, ds = [lT bs, tI c] ∧ BookOk k bs ∧ c.length = k ∧ (∀ x ∈ c, 0 ≤ x ∧ x < 41) ∧ Clr bs c ∧ Φ (B true) O
section
variable {P : Program} {w : World} {K : PySem.W.Frag} {mg : Str → Option Value} {base : Heap} {T : List (Addr × Str)} {cB cC cR cQ C : Addr}
theorem cLClear (t : Tx K mg) (i0 : Cal P w K mg base T CX0 "_law_within" 1 ["_law_one", "_law_other"] spWith) (i1 : Cal P w K mg base T CX0 "_law_less" 1 ["_law_one", "_law_other"] spLess) (d : Df K mg "_law_clear" sLClear ["_law_batches", "_law_crowd_here"]) :
    Cal P w K mg base T CX0 "_law_clear" 2 ["_law_batches", "_law_crowd_here"] spLClear := by
  refine calD d scLClear (fun ds O Φ Ψ ⟨_, _, _, h, _⟩ => by rw [h]; rfl) fun f cdv A outer s H E0 H0 O ds Φ Ψ hr ⟨k, bs, c, e, BO, hc, hcx, CL, φ⟩ => ?_
  subst e
  have hu : (A.deeper (envOfC "_law_clear" (defScope sLClear) s.heap.objs.size f cdv)).units + 64 < cLine := hr.units
  have hu1 : (A.deeper (envOfC "_law_clear" (defScope sLClear) s.heap.objs.size f cdv)).units + 1 < cLine := hu_of hr
  have hk1 := BO.k1
  have hk3 := BO.k3
  refine wss_cons (ws_par 2 3 (wa_two (wd_dict1 hu1 fun D hD => wd_nm 1 rfl ⟨c, rfl, wd_bl ⟨put_same, wd_lst (wa_1 (wd_nm 1 rfl ⟨by simp, .inl ⟨_, _, rfl, ?_⟩⟩))⟩⟩)) scLClear.nd)
  rw [put_put]
  have hcn : 0 ≤ c.sum := sum_nn fun x hx => (hcx x hx).1
  refine wss_cons (ws_while PassesOwn.never (fun m Γ1 O1 => ∃ (fr : List (List Int)) (kvs : DD) (y4 y5 y6 y7 y8 : Option Dat), Γ1 = [some (lT bs), some (tI c), some (R D), some (lT fr), y4, y5, y6, y7, y8, none, none, none] ∧ O1 D = some (oD kvs) ∧ (∀ a, a ≠ D → O a ≠ none → O1 a = O a) ∧ Cst k bs c kvs (fun d => d ∈ fr) ∧ ∀ d ∈ fr, (valD kvs d).isSome = true ∧ d.sum < m) (c.sum.toNat + 1)
    ⟨[c], [(c, B true)], none, none, none, none, none, rfl, put_same, fun a ha _ => put_ne ha, (Cst.init hc hcx).weak fun d _ _ g => .inl (by rw [g]; exact List.mem_cons_self), fun d hd => by
      have hd : d = c := by simpa using hd
      subst hd
      exact ⟨by simp [valD], by omega⟩⟩ ?_)
  rintro m Γ1 O1 ⟨fr, kvs, y4, y5, y6, y7, y8, rfl, hD1, hO, BS, hfr⟩
  refine wt_cmp (op_neD hu) (wd_nm 3 rfl (wd_lst (wa_nil ⟨by simp, .inl (rr_neD (seeP_lT fr) seeP_nil ⟨_, rfl, fun q => ?_, fun q => ?_⟩)⟩)))
  · -- a round
    rw [eqv_nil, isE_map] at q
    have hm1 : 1 ≤ m := by
      cases fr with
      | nil => cases q
      | cons d0 r =>
        obtain ⟨h1, h2⟩ := hfr d0 List.mem_cons_self
        have := sum_nn fun x hx => ((BS.key h1).2 x hx).1
        omega
    refine wss_cons (ws_set 4 (wd_lst (wa_nil ⟨by simp, .inr fun p hp => ?_⟩)) scLClear.nd)
    have hpD : D ≠ p := fun z => by rw [← z, hD1] at hp; cases hp
    have hOp : O p = none := by
      cases e : O p with
      | none => rfl
      | some od => rw [hO p (Ne.symm hpD) (by rw [e]; exact fun z => by cases z), e] at hp; cases hp
    refine wss_cons (ws_for PassesOwn.never (pg_name (i := 5) scLClear.nd rfl (by first | exact .inl rfl | exact .inr rfl) (by first | exact .inl rfl | exact .inr rfl)) (wi_list (wd_nm 3 rfl ⟨fr.map tI, .lst, fun i Γ' O' => ∃ (la : List (List Int)) (kvs : DD) (y5 y6 y7 y8 : Option Dat), Γ' = [some (lT bs), some (tI c), some (R D), some (lT fr), some (R p), y5, y6, y7, y8, none, none, none] ∧ O' D = some (oD kvs) ∧ O' p = some (.lst (la.map tI)) ∧ (∀ a, a ≠ D → O a ≠ none → O' a = O a) ∧
      Cst k bs c kvs (fun d => d ∈ fr.drop i ∨ d ∈ la) ∧ la.length ≤ kvs.length ∧ (∀ d ∈ fr, (valD kvs d).isSome = true) ∧ ∀ d ∈ la, (valD kvs d).isSome = true ∧ d.sum + 1 < m, ⟨[], kvs, y5, y6, y7, y8, rfl, by rw [put_ne hpD]; exact hD1, put_same, fun a h1 h2 => by rw [put_ne (fun z => h2 (by rw [z, hOp]))]; exact hO a h1 h2, BS.weak fun d _ _ g => .inl (.inl g), by simp, fun d hd => (hfr d hd).1, by simp⟩, fun _ _ _ _ => .lst, ?_, ?_⟩)))
    · rintro i d2 Γ' O' hi ⟨la, kvs, y5, y6, y7, y8, rfl, hD1, hp1, hO, BS, hll, hfs, hla⟩ hy
      obtain ⟨need, hneed, e⟩ := tIs_get hy
      subst e
      have hnm := List.mem_of_getElem? hneed
      have hnf := hfr need hnm
      obtain ⟨n1, n2⟩ := BS.key (hfs need hnm)
      have hil : i < fr.length := (List.getElem?_eq_some_iff.mp hneed).1
      have hdrop : fr.drop i = need :: fr.drop (i + 1) := by rw [List.drop_eq_getElem_cons hil]; congr 1; exact (List.getElem?_eq_some_iff.mp hneed).2
      refine rg_name (wss_cons (ws_set 6 (wd_lc [("_law_kind", 9), ("_law_x", 10)] (gTup K 2 (gCons (gName 9) (gCons (gName 10) gNil))) (gw_tup (by decide) (by decide)) scLClear.nd (blkOk_by (N := ["_law_batches", "_law_crowd_here", "_law_seen", "_law_fresh", "_law_later", "_law_waiting", "_law_kinds", "_law_batch", "_law_rest", "_law_kind", "_law_x", "_law_one"]) (sc := defScope sLClear) (by decide +kernel)) (fun s H C cl fp => pg2 9 10 scLClear.nd) (wi_enumT t.enumerate (wd_nm 5 rfl ⟨_, rfl, ?_⟩))) scLClear.nd))
      refine lcw_filter (posD need) (by rw [List.length_map]; omega) trivial (fun i d hi hy => ?_) (.inl ?_)
      · obtain ⟨x, h1, rfl⟩ := hy
        obtain ⟨z1, h2, rfl⟩ := ints_get h1
        refine rg2 ⟨rfl, fun s0 H1 C cl fp => wts_one (wt_cmp op_gt (wd_nm 10 rfl (wd_int (rr_I0 ⟨_, rfl, rfl, fun hb s0 H1 C cl fp => wd_nm 9 rfl ⟨?_, rfl⟩, fun hb => ?_⟩))))⟩
        · unfold posD; rw [h2]; simp [of_decide_eq_true hb]
        · unfold posD; rw [h2]; simp [of_decide_eq_false hb]
      rw [List.length_map]
      obtain ⟨L, hL⟩ := pos_ints need (List.range need.length)
      have pc := pos_cases need
      rw [hL] at pc ⊢
      refine wss_cons (ws_if (wt_cmp (op_eqD hu) (wd_nm 6 rfl (wd_lst (wa_nil ⟨by simp, .inl (rr_eqD (seeP_ints L) seeP_nil ⟨_, rfl, fun q2 => wss_one (ws_ret (wd_bl (.inl ⟨O, fun a od ha => ?_, φ⟩))), fun q2 => wss_nil ?_⟩)⟩)))))
      · rw [hO a (fun z => by rw [z, hD] at ha; cases ha) (by rw [ha]; exact fun z => by cases z)]; exact ha
      rw [eqv_nil, isE_map] at q2
      obtain ⟨j, r, h1, hj, hj0⟩ := pc.resolve_left fun z => by
        have z1 := z.1
        cases L with
        | nil => cases q2
        | cons _ _ => cases z1
      refine wss_one (ws_for PassesOwn.never (pg_name (i := 7) scLClear.nd rfl (by first | exact .inl rfl | exact .inr rfl) (by first | exact .inl rfl | exact .inr rfl)) (wi_list (wd_lc [("_law_one", 11)] (gName 11) (gw_name (by decide)) scLClear.nd (blkOk_by (N := ["_law_batches", "_law_crowd_here", "_law_seen", "_law_fresh", "_law_later", "_law_waiting", "_law_kinds", "_law_batch", "_law_rest", "_law_kind", "_law_x", "_law_one"]) (sc := defScope sLClear) (by decide +kernel)) (fun s H C cl fp => pg_name scLClear.nd rfl (by first | exact .inl rfl | exact .inr rfl) (by first | exact .inl rfl | exact .inr rfl)) (wi_list (wd_nm 0 rfl ⟨bs.map tI, .lst, ?_⟩)))))
      refine lcw_filter (fun i => (bs[i]?).bind fun b => if (decide (0 < g0 b j) && leCr b need) = true then some (tI b) else none) (by rw [List.length_map]; have := BO.n; omega) .lst (fun i d hi hy => ?_) (.inl ?_)
      · obtain ⟨b, hb, e⟩ := tIs_get hy
        subst e
        obtain ⟨b1, b2, b3⟩ := BO.b _ (List.mem_of_getElem? hb)
        obtain ⟨bj, hbj⟩ : ∃ x, b[j]? = some x := ⟨_, List.getElem?_eq_getElem (by omega)⟩
        have hg : g0 b j = bj := by simp [g0, List.getD_eq_getElem?_getD, hbj]
        refine rg_name ⟨rfl, fun s0 H1 C cl fp => wts_one (wt_ww (ww_and (wt_cmp op_gt (wd_ixT (wd_nm 11 rfl (wd_ixL (wd_nm 6 rfl (wd_int ⟨L.map I, 0, I (j : Int), .lst, rfl, by rw [h1]; exact atI_nat (j := 0) rfl, b.map I, (j : Int), I bj, rfl, rfl, atI_ofNat (mapI_get hbj), wd_int (rr_I0 ⟨_, rfl, fun q3 => ⟨rfl, (fun z => nomatch z), fun _ => ?_⟩, fun q3 => ww_and1 (wt_val (wd_call i0 (hr.mono (by decide)) (wa_two (wd_nm 11 rfl (wd_nm 5 rfl ⟨b, need, rfl, by rw [n1, b1], by omega, _, rfl, rfl, fun hq s0 H1 C cl fp => wd_nm 11 rfl ⟨?_, rfl⟩, fun hq => ?_⟩)))))⟩)⟩))))))))⟩
        · rw [hb, Option.bind_some, if_neg (by rw [hg, q3]; simp)]
        · rw [hb, Option.bind_some, if_pos (by rw [hg, q3, hq]; rfl)]
        · rw [hb, Option.bind_some, if_neg (by rw [hg, q3, hq]; simp)]
      rw [List.length_map, filterMap_range]
      generalize hG : bs.filter (fun b => decide (0 < g0 b j) && leCr b need) = G
      have hGm : ∀ b, b ∈ G ↔ b ∈ bs ∧ 0 < g0 b j ∧ leCr b need = true := fun b => by rw [← hG, List.mem_filter]; simp
      refine ⟨G.map tI, .lst, fun t Γ' O' => ∃ (la : List (List Int)) (kvs : DD) (y7 y8 : Option Dat), Γ' = [some (lT bs), some (tI c), some (R D), some (lT fr), some (R p), some (tI need), some (.lst (L.map I)), y7, y8, none, none, none] ∧ O' D = some (oD kvs) ∧ O' p = some (.lst (la.map tI)) ∧ (∀ a, a ≠ D → O a ≠ none → O' a = O a) ∧
        Cst k bs c kvs (fun d => d ∈ fr.drop i ∨ d ∈ la) ∧ la.length ≤ kvs.length ∧ (∀ d ∈ fr, (valD kvs d).isSome = true) ∧ (∀ d ∈ la, (valD kvs d).isSome = true ∧ d.sum + 1 < m) ∧ ∀ b ∈ G.take t, (valD kvs (subC need b)).isSome = true, ⟨la, kvs, y7, y8, rfl, hD1, hp1, hO, BS, hll, hfs, hla, by simp⟩, fun _ _ _ _ => .lst, ?_, ?_⟩
      · rintro u d3 Γ' O' hu2 ⟨la, kvs, y7, y8, rfl, hD1, hp1, hO, BS, hll, hfs, hla, hed⟩ hy
        obtain ⟨b, hb, e⟩ := tIs_get hy
        subst e
        obtain ⟨g1, g2, g3⟩ := (hGm b).mp (List.mem_of_getElem? hb)
        obtain ⟨b1, b2, b3⟩ := BO.b _ g1
        have hnb : need.length = b.length := by rw [n1, b1]
        have htk : ∀ x ∈ G.take (u + 1), x ∈ G.take u ∨ x = b := fun x hx => by
          rw [List.take_add_one, hb] at hx
          rcases List.mem_append.mp hx with g | g
          · exact .inl g
          · exact .inr (by simpa using g)
        refine rg_name (wss_cons (ws_set 8 (wd_call i1 (hr.mono (by decide)) (wa_two (wd_nm 5 rfl (wd_nm 7 rfl ⟨need, b, rfl, hnb, by omega, ?_⟩)))) scLClear.nd))
        refine wss_one (ws_if (wt_dnotin hu1 (wd_nm 8 rfl (wd_nm 2 rfl ⟨D, kvs, subC need b, rfl, rfl, hD1, fun q3 => ?_, fun q3 => wss_nil ⟨la, kvs, _, _, rfl, hD1, hp1, hO, BS, hll, hfs, hla, fun x hx => (htk x hx).elim (hed x) fun e => by rw [e]; simpa using q3⟩⟩))))
        have hnew : valD kvs (subC need b) = none := by
          cases h : valD kvs (subC need b) with
          | none => rfl
          | some _ => rw [h] at q3; cases q3
        have hsl : (subC need b).length = k := by simp [subC]; omega
        have hsx : ∀ x ∈ subC need b, 0 ≤ x ∧ x < 41 := fun x hx => by
          obtain ⟨l, hl⟩ := List.getElem?_of_mem hx
          have e1 : g0 (subC need b) l = x := by simp [g0, List.getD_eq_getElem?_getD, hl]
          have e2 := sub_g0 hnb l
          have e3 := (leCr_iff hnb.symm).mp g3 l
          have e4 := g0_nn b2 l
          have hlk : l < need.length := by have := (List.getElem?_eq_some_iff.mp hl).1; omega
          have e5 : g0 need l < 41 := by
            have : need[l]? = some (need[l]) := List.getElem?_eq_getElem hlk
            have e6 : g0 need l = need[l] := by simp [g0, List.getD_eq_getElem?_getD, this]
            rw [e6]; exact (n2 _ (List.getElem_mem hlk)).2
          omega
        have hss : (subC need b).sum + 1 ≤ need.sum := by rw [sum_sub hnb]; have := g0_le_sum b2 j; omega
        have hsm := hnf.2
        have BSp := BS.put (w := B true) hsl hsx
        have hkl := BSp.len hk3
        have hpl : (putD kvs (subC need b) (B true)).length = kvs.length + 1 := by rw [putD_new (valD_none hnew)]; simp
        refine wss_cons (ws_dput hu1 (wd_bl (wd_nm 2 rfl (wd_nm 8 rfl ⟨D, kvs, subC need b, rfl, rfl, hD1, by omega, ?_⟩))))
        have hp2 : (put O' D (oD (putD kvs (subC need b) (B true)))) p = some (.lst (la.map tI)) := by rw [put_ne (Ne.symm hpD)]; exact hp1
        refine wss_one (ws_expr (wd_append (wd_nm 4 rfl ⟨p, rfl, ⟨_, hp2⟩, wd_nm 8 rfl ⟨la.map tI, hp2, by rw [List.length_map]; omega, ⟨la ++ [subC need b], putD kvs (subC need b) (B true), _, _, rfl, ?_, ?_, ?_, ?_, ?_, ?_, ?_, ?_⟩⟩⟩)))
        · rw [put_ne hpD]; exact put_same
        · rw [put_same, List.map_append]; rfl
        · intro a h1 h2
          rw [put_ne (fun z => h2 (by rw [z, hOp])), put_ne h1]; exact hO a h1 h2
        · refine BSp.weak fun d _ _ g => .inl ?_
          rcases g with (z | z) | z
          · exact .inl z
          · exact .inr (List.mem_append_left _ z)
          · exact .inr (List.mem_append_right _ (by rw [z]; exact List.mem_cons_self))
        · simp; omega
        · exact fun d hd => isSome_put (hfs d hd)
        · intro d hd
          rcases List.mem_append.mp hd with g | g
          · exact ⟨isSome_put (hla d g).1, (hla d g).2⟩
          · have g := List.mem_singleton.mp g
            subst g
            exact ⟨by rw [valD_put]; rfl, by omega⟩
        · intro x hx
          rcases htk x hx with g | g
          · exact isSome_put (hed x g)
          · subst g
            rw [valD_put]; rfl
      · rintro Γ' O' ⟨la, kvs, y7, y8, rfl, hD1, hp1, hO, BS, hll, hfs, hla, hed⟩
        rw [List.length_map, List.take_length] at hed
        refine ⟨la, kvs, _, _, _, _, rfl, hD1, hp1, hO, BS.weak fun d hd hc2 g => ?_, hll, hfs, hla⟩
        rcases g with g | g
        · rw [hdrop] at g
          rcases List.mem_cons.mp g with g | g
          · subst g
            obtain ⟨b, g1, g2, g3, g4⟩ := clr_step BO.toBatOk n1 hc2 hj0
            have hnb : d.length = b.length := by rw [n1, (BO.b b g1).1]
            refine .inr ⟨_, hed b ((hGm b).mpr ⟨g1, g2, g3⟩), g4, ?_⟩
            have := g0_le_sum (BO.b b g1).2.1 j
            rw [sum_sub hnb]; omega
          · exact .inl (.inl g)
        · exact .inl (.inr g)
    · rintro Γ' O' ⟨la, kvs, y5, y6, y7, y8, rfl, hD1, hp1, hO, BS, hll, hfs, hla⟩
      rw [List.length_map] at BS
      refine RS.freeze (i := 4) rfl hp1 ?_
      refine wss_one (ws_set 3 (wd_nm 4 rfl ⟨m - 1, by omega, la, kvs, _, _, _, _, _, rfl, by rw [del_ne hpD]; exact hD1, fun a h1 h2 => by rw [del_ne (fun z => h2 (by rw [z, hOp]))]; exact hO a h1 h2, BS.weak fun d _ _ g => .inl ?_, fun d hd => ⟨(hla d hd).1, by have := (hla d hd).2; omega⟩⟩) scLClear.nd)
      rcases g with g | g
      · rw [List.drop_length] at g; simp at g
      · exact g
  · -- the end: it cannot come
    rw [eqv_nil, isE_map] at q
    have hfr0 : fr = [] := by cases fr with
      | nil => rfl
      | cons _ _ => cases q
    subst hfr0
    exact (Cst.none (BS.weak (q := fun _ => False) fun d _ _ g => by simp at g) (c.sum.toNat + 1) c (by omega) BS.cc CL).elim
end
end DL

set_option Elab.async false
set_option linter.all false
set_option maxRecDepth 100000
set_option maxHeartbeats 1000000
set_option pp.maxSteps 300
set_option exponentiation.threshold 3000
/-! WK15: _law_comes, _law_right -/
namespace DL
open PySem PySem.Spec PyProof.Rows L2
theorem dot_le {M : Int} : ∀ {a c : List Int}, (∀ x ∈ a, 0 ≤ x) → (∀ y ∈ c, 0 ≤ y ∧ y ≤ M) → 0 ≤ M → dot a c ≤ M * a.sum
  | [], _, _, _, hM => by simp [dot]
  | x :: a, [], h, _, hM => by
    have := sum_nn h
    have := Int.mul_nonneg hM this
    simpa [dot] using this
  | x :: a, y :: c, h, h2, hM => by
    have ih := dot_le (a := a) (c := c) (fun z hz => h z (List.mem_cons_of_mem _ hz)) (fun z hz => h2 z (List.mem_cons_of_mem _ hz)) hM
    have hx := h x List.mem_cons_self
    have hy := h2 y List.mem_cons_self
    have e : dot (x :: a) (y :: c) = x * y + dot a c := by simp [dot]
    rw [e, sum_cons_int, Int.mul_add]
    have : x * y ≤ M * x := by rw [Int.mul_comm M x]; exact Int.mul_le_mul_of_nonneg_left hy.2 hx
    omega
theorem run_le {k : Nat} {bs : List (List Int)} (B : BatOk k bs) (h8 : ∀ b ∈ bs, b.sum ≤ 8) (j : Nat) : ∀ {run : List Nat}, okIdx bs run → colRun bs j run ≤ 8 * run.length
  | [], _ => by simp [colRun]
  | i :: run, hi => by
    have ih := run_le B h8 j (run := run) fun a ha => hi a (List.mem_cons_of_mem _ ha)
    have hlt := hi i List.mem_cons_self
    have := g0_le_sum (B.b _ (bat_mem hlt)).2.1 j
    have := h8 _ (bat_mem hlt)
    rw [col_cons, List.length_cons]
    omega
theorem runc_le {k : Nat} {bs : List (List Int)} {costs : List Int} (B : BatOk k bs) (h8 : ∀ b ∈ bs, b.sum ≤ 8) (hc : ∀ y ∈ costs, 0 ≤ y ∧ y ≤ 1000) : ∀ {run : List Nat}, okIdx bs run → costRun bs costs run ≤ 8000 * run.length
  | [], _ => by simp [costRun]
  | i :: run, hi => by
    have ih := runc_le B h8 hc (run := run) fun a ha => hi a (List.mem_cons_of_mem _ ha)
    have hlt := hi i List.mem_cons_self
    have := dot_le (B.b _ (bat_mem hlt)).2.1 hc (by decide)
    have := h8 _ (bat_mem hlt)
    rw [cost_cons, List.length_cons]
    omega
theorem log_lt {i : Int} (h : i.natAbs < 2 ^ 60) : i.natAbs.log2 < 1920 := by
  by_cases z : i.natAbs = 0
  · rw [z]; decide
  · exact (Nat.log2_lt z).mpr (Nat.lt_of_lt_of_le h (Nat.pow_le_pow_right (by decide) (by decide)))
theorem comD_eq {bs : List (List Int)} {costs c : List Int} {r r' : Option (Int × List Nat)} (h : CovOK bs costs c r) (h' : CovOK bs costs c r') : comD costs c r = comD costs c r' := by
  have e := covOK_cost h h'
  cases r with
  | none => cases r' with
    | none => rfl
    | some _ => cases e
  | some x => cases r' with
    | none => cases e
    | some y =>
      have e : x.1 = y.1 := Option.some.inj e
      show I (x.1 - _) = I (y.1 - _)
      rw [e]
structure Book8 (k : Nat) (bs : List (List Int)) : Prop extends BookOk k bs where
  s8 : ∀ b ∈ bs, b.sum ≤ 8
structure Cr5 (k : Nat) (c : List Int) : Prop where
  l : c.length = k
  p : ∀ x ∈ c, 0 ≤ x
  s : c.sum ≤ 5
theorem mem_g0 {a : List Int} {x : Int} (h : x ∈ a) : ∃ j, j < a.length ∧ g0 a j = x := by
  obtain ⟨j, hj⟩ := List.getElem?_of_mem h
  exact ⟨j, (List.getElem?_eq_some_iff.mp hj).1, by simp [g0, List.getD_eq_getElem?_getD, hj]⟩
theorem Cr5.le {k : Nat} {c : List Int} (h : Cr5 k c) : ∀ x ∈ c, 0 ≤ x ∧ x ≤ 5 := fun x hx => by
  obtain ⟨j, _, e⟩ := mem_g0 hx
  have := g0_le_sum h.p j
  have := h.s
  exact ⟨h.p x hx, by omega⟩
theorem Cr5.ok {k : Nat} {c : List Int} (h : Cr5 k c) : CrOk k c := ⟨h.l, fun x hx => by have := h.le x hx; omega⟩
theorem comD_rep {k : Nat} {bs : List (List Int)} {costs c : List Int} {r : Option (Int × List Nat)} (B : Book8 k bs) (CR : Cr5 k c) (CO : CostOk k costs) (h : CovOK bs costs c r) : comD costs c r = N ∨ ∃ i : Int, comD costs c r = I i ∧ i.natAbs.log2 < 1920 := by
  cases r with
  | none => exact .inl rfl
  | some e =>
    refine .inr ⟨_, rfl, log_lt ?_⟩
    obtain ⟨⟨h1, h2⟩, h3, h4, _⟩ := h
    have hc : ∀ y ∈ costs, 0 ≤ y ∧ y ≤ 1000 := fun y hy => by have := CO.r y hy; omega
    have a1 := runc_le B.toBatOk B.s8 hc h1
    have a2 := cost_nn (fun b hb => (B.b b hb).2.1) (fun y hy => (hc y hy).1) h1
    have a3 := dot_nn CR.p fun y hy => (hc y hy).1
    have a4 := dot_le CR.p hc (by decide)
    have := CR.s
    omega
theorem sub_sum {k : Nat} {bs : List (List Int)} {c : List Int} {run : List Nat} (B : BatOk k bs) (hc : c.length = k) (h1 : okIdx bs run) : addC c (subC (sumRun k bs run) c) = sumRun k bs run := by
  have hl : (sumRun k bs run).length = k := sumRun_len (fun b hb => (B.b b hb).1) h1
  have hs : (subC (sumRun k bs run) c).length = k := by simp [subC]; omega
  refine ext_g0 (by rw [addC_len hc hs, hl]) fun j _ => ?_
  rw [add_g0 (by omega), sub_g0 (by omega)]
  omega
theorem asked_ok {cC cQ : Addr} {k : Nat} {d1 d2 : Dat} {O : OHp} {Ψ : Addr → Dat → OHp → Prop} {G : List Int → List Int → Prop} {c costs : List Int} (h1 : seqD d1 = some (c.map I)) (h2 : seqD d2 = some (costs.map I)) (CO : CrOk k c) (CS : CostOk k costs) (g : G c costs) : Asked cC cQ k d1 d2 O Ψ G :=
  chk_ok h1 (num_all fun x hx => (CO.r x hx).1) (by rw [List.length_map, CO.l]) ⟨c, rfl, CO, chk_ok h2 (pos_all fun x hx => (CS.r x hx).1) (by rw [List.length_map, CS.l]) ⟨costs, rfl, CS, g⟩⟩
abbrev sComes : Stmt := topS 52
abbrev sRight : Stmt := topS 53
theorem scComes : FnScope ["_law_batches", "_law_crowd_here", "_law_costs_here", "_law_value", "_law_due"] ["_law_batches", "_law_crowd_here", "_law_costs_here", "_law_value", "_law_due"] (defScope sComes) := C8.fnScope_by (by decide +kernel)
theorem scRight : FnScope ["_law_book_here", "_law_batches", "_law_crowd_here", "_law_costs_here", "_law_due", "_law_given", "_law_paid", "_law_value"] ["_law_book_here", "_law_batches", "_law_crowd_here", "_law_costs_here", "_law_due"] (defScope sRight) := C8.fnScope_by (by decide +kernel)
def spComes : DSp := fun ds O Φ _ => ∃ k bs c costs r r', ds = [lT bs, tI c, tI costs, leastD k bs c r, comD costs c r'] ∧ Book8 k bs ∧ Cr5 k c ∧ CostOk k costs ∧ CovOK bs costs c r ∧ CovOK bs costs c r' ∧ Φ (B true) O
def spRight (C : Addr) : DSp := fun ds O Φ _ => ∃ k bs c costs r, ds = [bookD C k bs, lT bs, tI c, tI costs, comD costs c r] ∧ Book8 k bs ∧ Cr5 k c ∧ CostOk k costs ∧ CovOK bs costs c r ∧ Φ (B true) O
section
variable {P : Program} {w : World} {K : PySem.W.Frag} {mg : Str → Option Value} {base : Heap} {T : List (Addr × Str)} {cB cC cR cQ C : Addr}
theorem cComes (t : Tx K mg) (i0 : Cal P w K mg base T CX0 "_law_is_crowd" 1 ["_law_kinds", "_law_value"] spIsCrowd) (i1 : Cal P w K mg base T CX0 "_law_cost" 1 ["_law_crowd_here", "_law_costs_here"] spLCost) (i2 : Cal P w K mg base T CX0 "_law_more" 1 ["_law_one", "_law_other"] spMore)
    (i3 : Cal P w K mg base T CX0 "_law_clear" 2 ["_law_batches", "_law_crowd_here"] spLClear) (d : Df K mg "_law_comes" sComes ["_law_batches", "_law_crowd_here", "_law_costs_here", "_law_value", "_law_due"]) :
    Cal P w K mg base T CX0 "_law_comes" 3 ["_law_batches", "_law_crowd_here", "_law_costs_here", "_law_value", "_law_due"] spComes := by
  refine calD d scComes (fun ds O Φ Ψ ⟨_, _, _, _, _, _, h, _⟩ => by rw [h]; rfl) fun f cdv A outer s H E0 H0 O ds Φ Ψ hr ⟨k, bs, c, costs, r, r', e, BO, CR, CO, h, h', φ⟩ => ?_
  subst e
  have hk1 := BO.k1
  have hk3 := BO.k3
  have ec := covOK_cost h h'
  cases r with
  | none =>
    cases r' with
    | some _ => cases ec
    | none =>
      refine wss_cons (ws_if (wt_ww (ww_or (wt_isN (wd_nm 4 rfl ⟨rfl, fun _ => ⟨fun _ => wss_one (ws_ret (ret_val (wd_and (wd_isN (wd_nm 4 rfl ⟨rfl, _, rfl, fun z => (nomatch z), fun _ => wd_one (wd_isN (wd_nm 3 rfl ⟨rfl, φ⟩))⟩))))), fun z => (nomatch z)⟩, fun z => (nomatch z)⟩)))))
  | some e =>
    cases r' with
    | none => cases ec
    | some e' =>
      have ec : e.1 = e'.1 := Option.some.inj ec
      obtain ⟨⟨h1, h2⟩, h3, h4, h5⟩ := h
      have hbl : ∀ b ∈ bs, b.length = k := fun b hb => (BO.b b hb).1
      have hl : (sumRun k bs e.2).length = k := sumRun_len hbl h1
      have hlc : (sumRun k bs e.2).length = c.length := by rw [hl, CR.l]
      have hsl : (subC (sumRun k bs e.2) c).length = k := by simp [subC]; have := CR.l; omega
      have hlen : (e.2.length : Int) ≤ 5 := Int.le_trans h4 CR.s
      refine wss_cons (ws_if (wt_ww (ww_or (wt_isN (wd_nm 4 rfl ⟨rfl, fun z => (nomatch z), fun _ => ww_or1 (wt_isN (wd_nm 3 rfl ⟨rfl, fun z => (nomatch z), fun _ => wss_nil ?_⟩))⟩)))))
      refine wss_cons (ws_if (wt_ww (ww_or (wt_not (wt_val (wd_call i0 (hr.mono (by decide)) (wa_two (wd_len t.len (wd_nm 1 rfl ⟨_, .inr rfl, wd_nm 3 rfl ⟨k, subC (sumRun k bs e.2) c, by rw [List.length_map, CR.l]; rfl, hsl, by omega, fun x hx => ?_, _, rfl, fun z => (nomatch z), fun _ => ww_or1 (wt_cmp op_ne (wd_call i1 (hr.mono (by decide)) (wa_two (wd_nm 3 rfl (wd_nm 2 rfl ⟨subC (sumRun k bs e.2) c, costs, rfl, by rw [hsl, CO.l], by omega, fun y hy => by have := CO.r y hy; omega, wd_nm 4 rfl (rr_ne rfl ⟨_, rfl, fun z => ?_, fun _ => wss_nil ?_⟩)⟩)))))⟩⟩)))))))))
      · obtain ⟨j, _, e6⟩ := mem_g0 hx
        rw [sub_g0 hlc, sumRun_col hbl h1] at e6
        have := h2 j
        omega
      · rw [dot_sub hlc, sumRun_cost hbl h1, ← h3, ec] at z
        simp at z
      · refine wss_one (ws_ret (ret_val (wd_call i3 hr (wa_two (wd_nm 0 rfl (wd_call i2 (hr.mono (by decide)) (wa_two (wd_nm 1 rfl (wd_nm 3 rfl ⟨c, subC (sumRun k bs e.2) c, rfl, by rw [CR.l, hsl], by have := CR.l; omega, k, bs, addC c (subC (sumRun k bs e.2) c), rfl, BO.toBookOk, ?_, ?_, ?_, φ⟩)))))))))
        · exact addC_len CR.l hsl
        · rw [sub_sum BO.toBatOk CR.l h1]
          intro x hx
          obtain ⟨j, _, e6⟩ := mem_g0 hx
          rw [sumRun_col hbl h1] at e6
          have := run_le BO.toBatOk BO.s8 j h1
          have := col_nn (fun b hb => (BO.b b hb).2.1) h1 j
          omega
        · rw [sub_sum BO.toBatOk CR.l h1]
          exact ⟨e.2, h1, fun j => sumRun_col hbl h1 j⟩
end
end DL

set_option Elab.async false
set_option linter.all false
set_option maxRecDepth 100000
set_option maxHeartbeats 1000000
set_option pp.maxSteps 300
/-! WK16: _law_right -/
namespace DL
open PySem PySem.Spec PyProof.Rows L2
theorem eqv_lI (a : List Int) : PyData.eqv (.list (a.map .int)) (.list (a.map .int)) = true := by
  simp only [PyData.eqv, eqv_ints]; simp
section
variable {P : Program} {w : World} {K : PySem.W.Frag} {mg : Str → Option Value} {base : Heap} {T : List (Addr × Str)} {cB cC cR cQ C : Addr}
theorem cRight (t : Tx K mg) (i0 : Cal P w K mg base T (L2.CX P w) "coming_cost" 44 ["book", "crowd", "costs"] (spComing cC cQ C)) (j0 : CalR P w K mg base T (L2.CX P w) "coming_cost" 44 ["book", "crowd", "costs"] (spComing cC cQ C))
    (i1 : Cal P w K mg base T (L2.CX P w) "least_coming" 43 ["book", "crowd", "costs"] (spLeast cC cQ C)) (j1 : CalR P w K mg base T (L2.CX P w) "least_coming" 43 ["book", "crowd", "costs"] (spLeast cC cQ C))
    (i2 : Cal P w K mg base T CX0 "_law_comes" 3 ["_law_batches", "_law_crowd_here", "_law_costs_here", "_law_value", "_law_due"] spComes)
    (d : Df K mg "_law_right" sRight ["_law_book_here", "_law_batches", "_law_crowd_here", "_law_costs_here", "_law_due"]) :
    Cal P w K mg base T (L2.CX P w) "_law_right" 45 ["_law_book_here", "_law_batches", "_law_crowd_here", "_law_costs_here", "_law_due"] (spRight C) := by
  refine calX d scRight (fun ds O Φ Ψ ⟨_, _, _, _, _, h, _⟩ => by rw [h]; rfl) fun f cdv A outer s H E H0 O ds Φ Ψ hr ⟨k, bs, c, costs, r, e, BO, CR, CO, h, φ⟩ lk => ?_
  subst e
  have hk1 := BO.k1
  have hk3 := BO.k3
  have hu : (A.deeper (envOfC "_law_right" (defScope sRight) s.heap.objs.size f cdv)).units + 64 < cLine := hr.units
  have px : Passes (L2.CX P w) (cxOf (L2.CX P w) P w K mg base ["_law_book_here", "_law_batches", "_law_crowd_here", "_law_costs_here", "_law_due", "_law_given", "_law_paid", "_law_value"] "_law_right" (defScope sRight) f cdv A outer s H E) E := passes_call (takes_of rfl rfl rfl rfl) (fun _ _ _ _ h => h)
  have lc : c.length ≤ 1000 := by rw [CR.l]; omega
  have lq : costs.length ≤ 1000 := by rw [CO.l]; omega
  refine wss_cons (ws_par 5 6 (wa_two (wd_listOf t.list (wd_nm 2 rfl ⟨c.map I, .inr rfl, .inl (wd_listOf t.list (wd_nm 3 rfl ⟨costs.map I, .inr rfl, .inl ⟨_, _, rfl, ?_⟩⟩))⟩))) scRight.nd)
  refine wss_cons (ws_if (wt_ww (ww_or (wt_cmp op_ne (wd_repr t.repr (wd_callX i0 hr px lk (wa_cons (wd_nm 0 rfl (wa_two (wd_nm 5 rfl (wd_nm 6 rfl ⟨k, bs, _, _, rfl, BO.toBookOk, seqOk_lI lc, seqOk_lI lq, asked_ok rfl rfl CR.ok CO fun r1 h1 => ⟨comD_rep BO CR CO h1, wd_repr t.repr (wd_nm 4 rfl ⟨comD_rep BO CR CO h, rr_ne rfl ⟨_, rfl, fun z => ?_, fun _ => ?_⟩⟩)⟩⟩)))))))))))
  · rw [comD_eq h1 h] at z; simp at z
  refine ww_or1 (wt_cmp op_ne (wd_repr t.repr (wd_callR j0 hr px lk (wk_cons (wd_nm 3 rfl (wk_cons (wd_nm 2 rfl (wk_cons (wd_nm 0 rfl (wk_nil ⟨rfl, k, bs, _, _, rfl, BO.toBookOk, seqOk_tI lc, seqOk_tI lq, asked_ok rfl rfl CR.ok CO fun r2 h2 => ⟨comD_rep BO CR CO h2, wd_repr t.repr (wd_nm 4 rfl ⟨comD_rep BO CR CO h, rr_ne rfl ⟨_, rfl, fun z => ?_, fun _ => wss_nil ?_⟩⟩)⟩⟩))))))))))
  · rw [comD_eq h2 h] at z; simp at z
  refine wss_cons (ws_for (passes_of rfl) (pg_name (i := 7) scRight.nd rfl (by first | exact .inl rfl | exact .inr rfl) (by first | exact .inl rfl | exact .inr rfl)) (wi_list (wd_lst (wa_two (wd_callX i1 (hr.mono (by decide)) px lk (wa_cons (wd_nm 0 rfl (wa_two (wd_nm 5 rfl (wd_nm 6 rfl ⟨k, bs, _, _, rfl, BO.toBookOk, seqOk_lI lc, seqOk_lI lq, asked_ok rfl rfl CR.ok CO fun r1 h1 => wd_callR j1 (hr.mono (by decide)) px lk (wk_cons (wd_nm 3 rfl (wk_cons (wd_nm 2 rfl (wk_cons (wd_nm 0 rfl (wk_nil ⟨rfl, k, bs, _, _, rfl, BO.toBookOk, seqOk_tI lc, seqOk_tI lq, asked_ok rfl rfl CR.ok CO fun r2 h2 => ⟨by simp, .inl ⟨[leastD k bs c r1, leastD k bs c r2], .lst, fun i Γ' O' => (∃ y, Γ' = [some (bookD C k bs), some (lT bs), some (tI c), some (tI costs), some (comD costs c r), some (.lst (c.map I)), some (.lst (costs.map I)), y]) ∧ O' = O, ⟨⟨_, rfl⟩, rfl⟩, fun _ _ _ _ => .lst, ?_, ?_⟩⟩⟩)))))))⟩))))))))))
  · rintro i d2 Γ' O' hi ⟨⟨y, rfl⟩, rfl⟩ hy
    obtain ⟨r', h', rfl⟩ : ∃ r', CovOK bs costs c r' ∧ d2 = leastD k bs c r' := by
      match i, hy with
      | 0, hy => exact ⟨r1, h1, (Option.some.inj hy).symm⟩
      | 1, hy => exact ⟨r2, h2, (Option.some.inj hy).symm⟩
    exact rg_name (wss_one (ws_if (wt_not (wt_val (wd_call i2 (hr.mono (by decide)) (wa_cons (wd_nm 1 rfl (wa_cons (wd_nm 2 rfl (wa_cons (wd_nm 3 rfl (wa_two (wd_nm 7 rfl (wd_nm 4 rfl ⟨k, bs, c, costs, r', r, rfl, BO, CR, CO, h', h, _, rfl, fun z => (nomatch z), fun _ => wss_nil ⟨⟨_, rfl⟩, rfl⟩⟩))))))))))))))
  · rintro Γ' O' ⟨⟨y, rfl⟩, rfl⟩
    refine wss_one (ws_ret (ret_val (wd_and (wd_cmp (op_eqD hu) (wd_nm 5 rfl (wd_listOf t.list (wd_nm 2 rfl ⟨c.map I, .inr rfl, .inl (rr_eqD (seeP_ints c) (seeP_ints c) ⟨_, rfl, fun z => ?_, fun _ => wd_one (wd_cmp (op_eqD hu) (wd_nm 6 rfl (wd_listOf t.list (wd_nm 3 rfl ⟨costs.map I, .inr rfl, .inl (rr_eqD (seeP_ints costs) (seeP_ints costs) ?_)⟩))))⟩)⟩)))))))
    · rw [eqv_lI] at z; cases z
    · rw [eqv_lI]; exact φ
end
end DL

set_option Elab.async false
set_option linter.all false
set_option maxRecDepth 100000
set_option maxHeartbeats 1000000
set_option pp.maxSteps 300
/-! WK17: _law_refusal -/
namespace DL
open PySem PySem.Spec PyProof.Rows L2
abbrev sRefusal : Stmt := topS 48
theorem scRefusal : FnScope ["_law_work", "error"] ["_law_work"] (defScope sRefusal) := C8.fnScope_by (by decide +kernel)
/-- what the four classes must be -/
structure RfK (K : PySem.W.Frag) (mg : Str → Option Value) (cC cR cQ cF : Addr) : Prop where
  mC : mg "InvalidCrowd" = some (.ref cC)
  mR : mg "InvalidRun" = some (.ref cR)
  mQ : mg "InvalidQuestion" = some (.ref cQ)
  mF : mg "Refused" = some (.ref cF)
  xC : PySem.W.exmOne K (.ref cC) (.ref cC) = some true
  xR : PySem.W.exmOne K (.ref cR) (.ref cC) = some false
  xR2 : PySem.W.exmOne K (.ref cR) (.ref cR) = some true
  xQ : PySem.W.exmOne K (.ref cQ) (.ref cC) = some false
  xQ2 : PySem.W.exmOne K (.ref cQ) (.ref cR) = some false
  xQ3 : PySem.W.exmOne K (.ref cQ) (.ref cQ) = some true
  fC : XfC K cC
  fR : XfC K cR
  fQ : XfC K cQ
  aC : PySem.W.findIn K (.ref cC) "at" = some none
  aR : PySem.W.findIn K (.ref cR) "at" = some none
  aQ : PySem.W.findIn K (.ref cQ) "at" = some none
def tryHands : Stmt → List ExceptHandler
  | .Try _ h _ _ _ => h
  | _ => []
def rfL (cC cR cQ : Addr) : List (Addr × Str) := [(cC, "crowd"), (cR, "run"), (cQ, "costs")]
theorem refusal_gives {X : Cx} {g : Addr} {cdv : Value} {q : Str} {cC cR cQ cF : Addr} (R : RfK X.K X.mg cC cR cQ cF) : LamX.GivesTo X ["_law_work", "error"] "_law_refusal" (defScope sRefusal) g cdv (defBody sRefusal) "_law_work" q (TTref (rfL cC cR cQ)) := by
  intro f c' s H Q tl act hc h
  let ts : Addr → Str → Addr → Value → Option Addr → TS := fun C t a cls d => tRet (tTup (tCons (tC (.str t)) (tCons (tXf a cls d C "at" (tVar 1)) tNil)))
  have cl : Clauses (cxOf C8.CX0 X.prog X.w X.K X.mg X.base ["_law_work", "error"] "_law_refusal" (defScope sRefusal) g cdv X.A X.stack s H C8.E0).nox "error" (tryHands ((defBody sRefusal).getD 0 noSt)) [(.ref cC, ts cC "crowd"), (.ref cR, ts cR "run"), (.ref cQ, ts cQ "costs"), (.ref cF, fun _ _ _ _ _ _ => False)] :=
    .cons ⟨rfl, by decide, .inl R.mC⟩ (fun a oe cls d pn hz hf => pss_one (ps_ret (pe_tup (pa_cons pe_str (pa_cons (pe_xf R.fC R.aC hz hf (pe_var (i := 1) rfl (.inl rfl))) pa_nil)))))
    (.cons ⟨rfl, by decide, .inl R.mR⟩ (fun a oe cls d pn hz hf => pss_one (ps_ret (pe_tup (pa_cons pe_str (pa_cons (pe_xf R.fR R.aR hz hf (pe_var (i := 1) rfl (.inl rfl))) pa_nil)))))
    (.cons ⟨rfl, by decide, .inl R.mQ⟩ (fun a oe cls d pn hz hf => pss_one (ps_ret (pe_tup (pa_cons pe_str (pa_cons (pe_xf R.fQ R.aQ hz hf (pe_var (i := 1) rfl (.inl rfl))) pa_nil)))))
    (.cons ⟨rfl, by decide, .inl R.mF⟩ (fun a oe cls d pn hz hf => ⟨fun _ _ _ _ _ _ z => z.elim⟩) .nil)))
  refine ⟨_, pss_cons (ps_tryAs (X := (cxOf C8.CX0 X.prog X.w X.K X.mg X.base ["_law_work", "error"] "_law_refusal" (defScope sRefusal) g cdv X.A X.stack s H C8.E0).nox) (i := 1) (n := "error")
      (tb := fun W D σ H => ∃ Ech : XK, (∀ cls d σ' H', σ'.length = 2 → Ech cls d H' → W cls d σ' H') ∧ σ[0]? = some (some (.ref f)) ∧ H c' = some (LamX.CodeO c' q) ∧ tl Ech H (fun _ H1 => D.nx σ H1))
      rfl rfl scRefusal.nd rfl rfl (fun W pn xe tk => ?_) cl) (pss_one (ps_ret pe_non)), ?_⟩
  · refine ⟨fun pins s' σ H' D I h' => ?_⟩
    obtain ⟨Ech, hW, h1, h2, h3⟩ := h'
    have hp := act (fun cls d σ H => σ.length = 2 → W cls d σ H) pn xe Ech ⟨240, 8, 240, 17⟩ ⟨240, 8, 240, 19⟩ (fun u s' ⟨a, B, sI, pins, σ, H, cls, d, e, I, nb, up, sky, na, os, ag, w⟩ =>
      tk u s' ⟨a, B, sI, pins, σ, H, cls, d, e, I, nb, up, sky, na, os, ag, w I.len⟩) fun cls d σ' H' x y => hW cls d σ' H' y x
    exact (pss_one (ps_expr (pos := ⟨240, 8, 240, 19⟩) hp)).run pins s' σ H' D I ⟨h1, h2, h3⟩
  · refine ⟨fun cls d H' => ∃ C t dd v, (C, t) ∈ rfL cC cR cQ ∧ cls = .ref C ∧ d = some dd ∧ H' dd = some (.xd [("at", v)]) ∧ ∀ p, H' p = none → Q (.ref p) (upd H' p (.tup [.str t, v])), ?_, rfl, hc, h⟩
    rintro cls d σ' H' hl ⟨C, t, dd, v, mem, rfl, rfl, hd, hq⟩
    obtain ⟨x0, x1, rfl⟩ : ∃ x0 x1, σ' = [x0, x1] := by
      match σ', hl with
      | [x0, x1], _ => exact ⟨x0, x1, rfl⟩
    have fin : ∀ (a : Addr) D, D.rt = Q → ts C t a (.ref C) (some dd) D ([x0, x1].set 1 (some (.ref a))) H' := fun a D hD => by
      show ∃ v', _ ∧ _
      refine ⟨.ref a, rfl, rfl, rfl, dd, [("at", v)], v, rfl, hd, rfl, (show 2 ≤ sizeLine by decide), fun p hp => ?_⟩
      rw [hD]; exact hq p hp
    rcases List.mem_cons.mp mem with e | mem
    rotate_left
    rcases List.mem_cons.mp mem with e | mem
    rotate_left
    have e := List.mem_singleton.mp mem
    rotate_left
    all_goals (injection e with e1 e2; subst e1 e2)
    all_goals first
      | exact ⟨true, R.xC, fun _ a _ => fin a _ rfl, fun z => nomatch z⟩
      | exact ⟨false, R.xR, (fun z => nomatch z), fun _ => ⟨true, R.xR2, fun _ a _ => fin a _ rfl, fun z => nomatch z⟩⟩
      | exact ⟨false, R.xQ, (fun z => nomatch z), fun _ => ⟨false, R.xQ2, (fun z => nomatch z), fun _ => ⟨true, R.xQ3, fun _ a _ => fin a _ rfl, fun z => nomatch z⟩⟩⟩
end DL

set_option Elab.async false
set_option linter.all false
set_option maxRecDepth 100000
set_option maxHeartbeats 1000000
set_option pp.maxSteps 300
/-! WK18: defs that make lambdas; what _law_refusal tells of a lambda -/
namespace DL
open PySem PySem.Spec PyProof.Rows L2
/-- a def of the module that makes a lambda: its code object is at c, its table at Pt -/
structure DfL (K : PySem.W.Frag) (mg : Str → Option Value) (base : Heap) (x : Str) (st : Stmt) (ps : List Str) (c Pt : Addr) : Prop where
  ex : ∃ (f : Addr) (oc : Value) (od : Option Addr) (kV doc pm : Value) (an : Option Addr) (ct : Value) (osl : Array (Option Value)), K.lookup f = some ⟨oc, od, .func (PySem.W.fnOf x x (defArgs st) (defBody st) (defScope st) .none kV doc pm an (.ref c) ct), osl⟩ ∧ PySem.W.codeIn K (.ref c) x = true ∧ PySem.W.keepIn K (.ref f) = true ∧
    mg x = some (.ref f) ∧ Binds K (PySem.W.fnOf x x (defArgs st) (defBody st) (defScope st) .none kV doc pm an (.ref c) ct) ps []
  tab : LamX.TabB base mg c Pt
section
variable {P : Program} {w : World} {K : PySem.W.Frag} {mg : Str → Option Value} {base : Heap} {T : List (Addr × Str)}
theorem calL {x : Str} {st : Stmt} {N ps : List Str} {k : Nat} {dsp : DSp} {c Pt : Addr} (d : DfL K mg base x st ps c Pt) (Sc : FnScope N ps (defScope st)) (len : ∀ ds O Φ Ψ, dsp ds O Φ Ψ → ds.length = ps.length)
    (body : ∀ (f : Addr) (A : Around) (outer : List Env) (s : Shared) (H : Hp) (E : XK) (H0 : Hp) (O : OHp) (ds : List Dat) Φ Ψ, Room k (A.deeper (envOfC x (defScope st) s.heap.objs.size f (.ref c))) → dsp ds O Φ Ψ → Lk ⟨T, H0, O, H⟩ K E Ψ →
      WSs ⟨T, H0, O, H⟩ (cxOf (L2.CX P w) P w K mg base N x (defScope st) f (.ref c) A outer s H E) (defBody st) (startE N ds) O { nx := fun _ O' => Ret Φ (.v .non) O', rt := Ret Φ }) : Cal P w K mg base T (L2.CX P w) x (k + 1) ps dsp := by
  obtain ⟨f, oc, od, kV, doc, pm, an, ct, osl, lk, hcd, kp, hm, hb⟩ := d.ex
  refine ⟨f, _, fn_of lk hcd Sc (fun vs H Q E ⟨H0, O, ds, Φ, Ψ, s, r, h, _⟩ => (rps_len r).trans (len _ _ _ _ h)) fun A outer s H vs Q E hr ⟨H0, O, ds, Φ, Ψ, so, r, h, k1, k2⟩ => ⟨_, pss_w, ?_⟩, hm, kp, hb⟩
  have fin : ∀ v d H0' O' H', Step T K H0 O H H0' O' H' → rp K H0' d v → Ret Φ d O' → Q v H' := fun v d H0' O' H' s' r' q => by
    rcases q with ⟨O'', sb, φ⟩ | ⟨p, ds, O'', e, ho, sb, φ⟩
    · exact k1 v d H0' O'' H' (s'.trans (s'.s.forget sb)) r' φ
    · subst e
      have e : v = .ref p := r'
      subst e
      obtain ⟨H2, s2, r2⟩ := s'.s.freeze ho
      exact k1 _ _ H2 O'' H' ((s'.trans s2).trans (s2.s.forget sb)) r2 φ
  exact body f A outer s H E H0 O ds Φ Ψ hr h (fun C d x xd H0' O' H' a b c q => k2 C d x xd H0' O' H' a b c q) (L2.start N vs) H H0 _ so.refl (start_env r) ⟨fun σ' Γ' H0' O' H' s' e' q => fin _ (.v .non) _ _ _ s' rfl q, fun v d H0' O' H' s' r' q => fin _ _ _ _ _ s' r' q, fun _ _ _ _ _ _ _ q => q.elim, fun _ _ _ _ _ _ _ q => q.elim⟩
end
theorem seeP_si {O : OHp} (t : Str) (n : Int) (ht : PyData.strOk t = true := by decide +kernel) : SeeP O (.tup [S t, I n]) (.tuple [.str t, .int n]) := .inl ⟨by simp [isP, isPs], by simp [okS, okSs, ht], by simp [toP, toPs]⟩
theorem seeP_N {O : OHp} : SeeP O N .none := .inl ⟨by simp [isP], by simp [okS], by simp [toP]⟩
theorem eqv_si (t : Str) (n : Int) : PyData.eqv (.tuple [.str t, .int n]) (.tuple [.str t, .int n]) = true := by simp [PyData.eqv, PyData.eqvAll]
section
variable {z : En} {X : Cx} {Γ : Env'} {O : OHp} {Φ : Dat → OHp → Prop} {cC cR cQ cF : Addr}
/-- _law_refusal(lambda: body) -/
theorem wd_ref {c Pt : Addr} {k : Nat} {params : Arguments} {body : Expr} {scope : Scope} {lpos p pos : Pos} (dr : Df X.K X.mg "_law_refusal" sRefusal ["_law_work"]) (R : RfK X.K X.mg cC cR cQ cF)
    (TB : LamX.TabB X.base X.mg c Pt) (hcode : X.env.code = .ref c) (hmT : (Pt, X.env.qual ++ "<lambda>") ∈ z.T) (hu : ∀ p ∈ z.T, p.1 = Pt → p.2 = X.env.qual ++ "<lambda>") (hr : Room (k + 2) X.A) (L : LamX.LamS X.env.scope scope)
    (h : ∀ (H0' H' : Hp) (A : Around) (outer : List Env) (s : Shared) (H'' : Hp) (E : XK) (f c' : Addr), Room k (A.deeper (LamX.lamEnv X scope s.heap.objs.size f c')) → Lk ⟨z.T, H0', O, H'⟩ X.K E (fun C d O' => ∃ t, (C, t) ∈ rfL cC cR cQ ∧ Φ (.tup [S t, d]) O') →
      Passes (L2.CX X.prog X.w) (LamX.lamCx X A outer s H'' E scope f c') E → WD ⟨z.T, H0', O, H'⟩ (LamX.lamCx X A outer s H'' E scope f c') body Γ O fun _ O' => Φ N O')
    (hdef : defaultsOf params X.env = ([], []) := by rfl)
    (hbind : ∀ (q : Str) (cl : List (Str × Addr)) (pm cv ctv : Value), bindArgs (PySem.W.kla_fn "<lambda>" q params body scope cl pm cv ctv) ⟨[], []⟩ = pure [] := by intro _ _ _ _ _; rfl)
    (hg : Gl X "_law_refusal" := by rfl) :
    WD z X (.Call (.Name "_law_refusal" p) [.Lambda params body scope lpos] [] pos) Γ O Φ := by
  obtain ⟨g, fd, F, hm, hb⟩ := dr.ex
  obtain ⟨oc, od, kV, doc, pm, an, cdv, ct, osl, rfl, lk, hcd⟩ := F.ex
  exact wd_lam (T' := []) (k := k) (l := rfL cC cR cQ) F.kp lk hcd hb scRefusal rfl (.inl rfl) (refusal_gives R) hm TB hcode hmT hu hr L
    (fun H0' H' A outer s H'' E f c' hr' lk' => h H0' H' A outer s H'' E f c' hr' lk' (passes_call (takes_of rfl rfl rfl rfl) (fun _ _ _ _ h => h))) hdef hbind hg
end
end DL

set_option Elab.async false
set_option linter.all false
set_option maxRecDepth 100000
set_option maxHeartbeats 1000000
set_option pp.maxSteps 300
/-! WK19: _law_added -/
namespace DL
open PySem PySem.Spec PyProof.Rows L2
structure LamT (T : List (Addr × Str)) (Pt : Addr) (x : Str) : Prop where
  m : (Pt, (x ++ ".<locals>.") ++ "<lambda>") ∈ T
  u : ∀ p ∈ T, p.1 = Pt → p.2 = (x ++ ".<locals>.") ++ "<lambda>"
theorem addD_eq {bs : List (List Int)} {costs c b : List Int} {r r' q q' : Option (Int × List Nat)} (h : CovOK bs costs c r) (h' : CovOK bs costs c r') (g : CovOK bs costs (subC c b) q) (g' : CovOK bs costs (subC c b) q') : addD costs c b r q = addD costs c b r' q' := by
  have e := covOK_cost h h'
  have e2 := covOK_cost g g'
  cases r with
  | none => cases r' with
    | none => rfl
    | some _ => cases e
  | some x => cases r' with
    | none => cases e
    | some y =>
      have e : x.1 = y.1 := Option.some.inj e
      cases q with
      | none => cases q' with
        | none => rfl
        | some _ => cases e2
      | some u => cases q' with
        | none => cases e2
        | some v =>
          have e2 : u.1 = v.1 := Option.some.inj e2
          show I ((u.1 - _) - (x.1 - _)) = I ((v.1 - _) - (y.1 - _))
          rw [e, e2]
theorem Cr5.sub {k : Nat} {c b : List Int} (h : Cr5 k c) (hb : b.length = k) (hn : ∀ x ∈ b, 0 ≤ x) (hle : leCr b c = true) : Cr5 k (subC c b) := by
  have hl : c.length = b.length := by rw [h.l, hb]
  have le := (leCr_iff hl.symm).mp hle
  refine ⟨by simp [subC]; have := h.l; omega, fun x hx => ?_, ?_⟩
  · obtain ⟨j, _, e⟩ := mem_g0 hx
    rw [sub_g0 hl] at e
    have := le j
    omega
  · rw [sum_sub hl]
    have := sum_nn hn
    have := h.s
    omega
theorem cov_bd {k : Nat} {bs : List (List Int)} {costs c : List Int} {e : Int × List Nat} (B : Book8 k bs) (CR : Cr5 k c) (CO : CostOk k costs) (h : CovOK bs costs c (some e)) : 0 ≤ e.1 ∧ e.1 ≤ 40000 ∧ 0 ≤ dot c costs ∧ dot c costs ≤ 5000 := by
  obtain ⟨⟨h1, h2⟩, h3, h4, _⟩ := h
  have hc : ∀ y ∈ costs, 0 ≤ y ∧ y ≤ 1000 := fun y hy => by have := CO.r y hy; omega
  have a1 := runc_le B.toBatOk B.s8 hc h1
  have a2 := cost_nn (fun b hb => (B.b b hb).2.1) (fun y hy => (hc y hy).1) h1
  have a3 := dot_nn CR.p fun y hy => (hc y hy).1
  have a4 := dot_le CR.p hc (by decide)
  have := CR.s
  omega
theorem addD_rep {k : Nat} {bs : List (List Int)} {costs c b : List Int} {r q : Option (Int × List Nat)} (B : Book8 k bs) (CR : Cr5 k c) (CR2 : Cr5 k (subC c b)) (CO : CostOk k costs) (h : CovOK bs costs c r) (g : CovOK bs costs (subC c b) q) : addD costs c b r q = N ∨ ∃ i : Int, addD costs c b r q = I i ∧ i.natAbs.log2 < 1920 := by
  cases r with
  | none => exact .inl rfl
  | some e => cases q with
    | none => exact .inl rfl
    | some e' =>
      have a1 := cov_bd B CR CO h
      have a2 := cov_bd B CR2 CO g
      exact .inr ⟨_, rfl, log_lt (by omega)⟩
abbrev sLAdded : Stmt := topS 54
theorem scLAdded : FnScope ["_law_book_here", "_law_batches", "_law_crowd_here", "_law_costs_here", "_law_before", "_law_at", "_law_batch", "_law_after", "_law_due"] ["_law_book_here", "_law_batches", "_law_crowd_here", "_law_costs_here", "_law_before"] (defScope sLAdded) := C8.fnScope_by (by decide +kernel)
def spLAdded (C : Addr) : DSp := fun ds O Φ _ => ∃ k bs c costs r, ds = [bookD C k bs, lT bs, tI c, tI costs, comD costs c r] ∧ Book8 k bs ∧ bs.length ≤ 8 ∧ Cr5 k c ∧ CostOk k costs ∧ CovOK bs costs c r ∧ Φ (B true) O
section
variable {P : Program} {w : World} {K : PySem.W.Frag} {mg : Str → Option Value} {base : Heap} {T : List (Addr × Str)} {cB cC cR cQ cF C : Addr}
theorem cLAdded (t : Tx K mg) {cd Pt : Addr} (i0 : Cal P w K mg base T CX0 "_law_within" 1 ["_law_one", "_law_other"] spWith) (i1 : Cal P w K mg base T (L2.CX P w) "added_cost" 45 ["book", "crowd", "batch", "costs"] (spAdded cC cR cQ C)) (j1 : CalR P w K mg base T (L2.CX P w) "added_cost" 45 ["book", "crowd", "batch", "costs"] (spAdded cC cR cQ C))
    (i2 : Cal P w K mg base T CX0 "_law_coming" 2 ["_law_batches", "_law_crowd_here", "_law_costs_here"] spLComing) (i3 : Cal P w K mg base T CX0 "_law_less" 1 ["_law_one", "_law_other"] spLess)
    (dr : Df K mg "_law_refusal" sRefusal ["_law_work"]) (R : RfK K mg cC cR cQ cF) (LT : LamT T Pt "_law_added")
    (d : DfL K mg base "_law_added" sLAdded ["_law_book_here", "_law_batches", "_law_crowd_here", "_law_costs_here", "_law_before"] cd Pt) :
    Cal P w K mg base T (L2.CX P w) "_law_added" 48 ["_law_book_here", "_law_batches", "_law_crowd_here", "_law_costs_here", "_law_before"] (spLAdded C) := by
  refine calL d scLAdded (fun ds O Φ Ψ ⟨_, _, _, _, _, h, _⟩ => by rw [h]; rfl) fun f A outer s H E H0 O ds Φ Ψ hr ⟨k, bs, c, costs, r, e, BO, hb8, CR, CO, h, φ⟩ lk => ?_
  subst e
  have hk1 := BO.k1
  have hk3 := BO.k3
  have hu : (A.deeper (envOfC "_law_added" (defScope sLAdded) s.heap.objs.size f (.ref cd))).units + 64 < cLine := hr.units
  have px : Passes (L2.CX P w) (cxOf (L2.CX P w) P w K mg base ["_law_book_here", "_law_batches", "_law_crowd_here", "_law_costs_here", "_law_before", "_law_at", "_law_batch", "_law_after", "_law_due"] "_law_added" (defScope sLAdded) f (.ref cd) A outer s H E) E := passes_call (takes_of rfl rfl rfl rfl) (fun _ _ _ _ h => h)
  have lc : c.length ≤ 1000 := by rw [CR.l]; omega
  have lq : costs.length ≤ 1000 := by rw [CO.l]; omega
  refine wss_cons (ws_for (passes_of rfl) (pg2 5 6 scLAdded.nd) (wi_enumL t.enumerate (wd_nm 1 rfl ⟨bs.map tI, .lst, fun i Γ' O' => (∃ y5 y6 y7 y8, Γ' = [some (bookD C k bs), some (lT bs), some (tI c), some (tI costs), some (comD costs c r), y5, y6, y7, y8]) ∧ O' = O, ⟨⟨_, _, _, _, rfl⟩, rfl⟩, fun _ _ _ _ => .lst, ?_, ?_⟩)))
  · rintro i d2 Γ' O' hi ⟨⟨y5, y6, y7, y8, rfl⟩, rfl⟩ hy
    obtain ⟨x, hx, rfl⟩ := hy
    obtain ⟨b, hb, e⟩ := tIs_get hx
    subst e
    have hbm := List.mem_of_getElem? hb
    obtain ⟨b1, b2, b3⟩ := BO.b _ hbm
    have hil : i < bs.length := (List.getElem?_eq_some_iff.mp hb).1
    have hbat : bat bs i = b := bat_get hb
    have hix : idxOf (I (i : Int)) bs.length = some i := by
      show (if 0 ≤ (i : Int) ∧ (i : Int) < (bs.length : Int) then some (i : Int).toNat else none) = some i
      rw [if_pos ⟨by omega, by omega⟩]; rfl
    refine rg2 (wss_cons (ws_if (wt_not (wt_val (wd_call i0 (hr.mono (by decide)) (wa_two (wd_nm 6 rfl (wd_nm 2 rfl ⟨b, c, rfl, by rw [b1, CR.l], by omega, _, rfl, fun z => ?_, fun z => wss_nil ?_⟩))))))))
    · -- not within
      have hnl : leCr b c = false := by simpa using z
      refine wss_cons (ws_if (wt_cmp (op_neD hu) (wd_ref dr R d.tab rfl LT.m LT.u hr (LamX.lamS_by (sc := defScope sLAdded) (by decide +kernel)) fun H0' H' A' outer' s' H'' E' f' c' hr' lk' px' => wd_callX i1 hr' px' lk' (wa_cons (wd_nm 0 rfl (wa_cons (wd_nm 2 rfl (wa_two (wd_nm 5 rfl (wd_lst (wa_nil ⟨by simp, .inl ⟨k, bs, tI c, I (i : Int), .lst [], rfl, BO.toBookOk, seqOk_tI lc, rfl, ?_, chk_num CR.ok ⟨c, rfl, CR.ok, ?_⟩⟩⟩)))))))))))
      · exact seqOk_lI (c := []) (by simp)
      · rw [hix]
        show (leCr (bat bs i) c = false → _) ∧ (leCr (bat bs i) c = true → _)
        rw [hbat]
        refine ⟨fun _ => ⟨"run", by simp [rfL], wd_tup (wa_two (wd_str (wd_int ⟨by simp, rr_neD (seeP_si "run" 0) (seeP_si "run" 0) ⟨_, rfl, fun z2 => ?_, fun z2 => wss_nil (wss_one (ws_continue ⟨⟨_, _, _, _, rfl⟩, rfl⟩))⟩⟩)))⟩, fun z2 => ?_⟩
        · rw [eqv_si] at z2; cases z2
        · rw [hnl] at z2; cases z2
    · -- within
      have hle : leCr b c = true := by simpa using z
      have CR2 := CR.sub b1 b2 hle
      refine wss_cons (ws_set 7 (wd_call i2 (hr.mono (by decide)) (wa_cons (wd_nm 1 rfl (wa_two (wd_call i3 (hr.mono (by decide)) (wa_two (wd_nm 2 rfl (wd_nm 6 rfl ⟨c, b, rfl, by rw [b1, CR.l], lc, wd_nm 3 rfl ⟨k, bs, subC c b, costs, rfl, BO.toBookOk, hb8, CR2.l, CR2.p, CR2.s, CO, fun q hq => ?_⟩⟩)))))))) scLAdded.nd)
      have rep := addD_rep BO CR CR2 CO h hq
      refine wss_cons (ws_set 8 (rd_imp (Φ' := fun d O1 => d = addD costs c b r q ∧ O1 = O') (wd_ifExp (wt_isN (wd_nm 4 rfl ⟨by cases r <;> rfl, fun z2 => ?_, fun z2 => ?_⟩))) ?_) scLAdded.nd)
      · cases r with
        | some _ => cases z2
        | none => exact wd_non ⟨rfl, rfl⟩
      · cases r with
        | none => cases z2
        | some e => cases q with
          | none => exact absurd (cov_sub (by rw [CR.l, b1]) b2 h.1) (hq e.2)
          | some e' => exact wd_op op_sub (wd_nm 7 rfl (wd_nm 4 rfl (rr_I0 ⟨rfl, rfl⟩)))
      rintro _ _ ⟨rfl, rfl⟩
      refine wss_cons (ws_if (wt_cmp op_ne (wd_repr t.repr (wd_callX i1 (hr.mono (by decide)) px lk (wa_cons (wd_nm 0 rfl (wa_cons (wd_listOf t.list (wd_nm 2 rfl ⟨c.map I, .inr rfl, .inl (wa_two (wd_nm 5 rfl (wd_listOf t.list (wd_nm 3 rfl ⟨costs.map I, .inr rfl, .inl ⟨k, bs, .lst (c.map I), I (i : Int), .lst (costs.map I), rfl, BO.toBookOk, seqOk_lI lc, rfl, seqOk_lI lq, chk_ok rfl (num_all CR.p) (by rw [List.length_map, CR.l]) ⟨c, rfl, CR.ok, ?_⟩⟩⟩))))⟩)))))))))
      rw [hix]
      show (leCr (bat bs i) c = false → _) ∧ (leCr (bat bs i) c = true → _)
      rw [hbat]
      refine ⟨fun z2 => (by rw [hle] at z2; cases z2), fun _ => chk_ok rfl (pos_all fun x hx => (CO.r x hx).1) (by rw [List.length_map, CO.l]) ⟨costs, rfl, CO, fun r1 q1 h1 g1 => ⟨addD_rep BO CR CR2 CO h1 g1, wd_repr t.repr (wd_nm 8 rfl ⟨rep, rr_ne rfl ⟨_, rfl, fun z2 => ?_, fun z2 => wss_nil ?_⟩⟩)⟩⟩⟩
      · rw [addD_eq h1 h g1 hq] at z2; simp at z2
      refine wss_one (ws_if (wt_cmp op_ne (wd_repr t.repr (wd_callR j1 (hr.mono (by decide)) px lk (wk_cons (wd_nm 3 rfl (wk_cons (wd_nm 5 rfl (wk_cons (wd_nm 2 rfl (wk_cons (wd_nm 0 rfl (wk_nil ⟨rfl, k, bs, tI c, I (i : Int), tI costs, rfl, BO.toBookOk, seqOk_tI lc, rfl, seqOk_tI lq, chk_num CR.ok ⟨c, rfl, CR.ok, ?_⟩⟩)))))))))))))
      rw [hix]
      show (leCr (bat bs i) c = false → _) ∧ (leCr (bat bs i) c = true → _)
      rw [hbat]
      refine ⟨fun z2 => (by rw [hle] at z2; cases z2), fun _ => chk_ok rfl (pos_all fun x hx => (CO.r x hx).1) (by rw [List.length_map, CO.l]) ⟨costs, rfl, CO, fun r1 q1 h1 g1 => ⟨addD_rep BO CR CR2 CO h1 g1, wd_repr t.repr (wd_nm 8 rfl ⟨rep, rr_ne rfl ⟨_, rfl, fun z2 => ?_, fun z2 => wss_nil ⟨⟨_, _, _, _, rfl⟩, rfl⟩⟩⟩)⟩⟩⟩
      rw [addD_eq h1 h g1 hq] at z2; simp at z2
  · rintro Γ' O' ⟨⟨y5, y6, y7, y8, rfl⟩, rfl⟩
    exact wss_one (ws_ret (ret_val (wd_bl φ)))
end
end DL

set_option Elab.async false
set_option linter.all false
set_option maxRecDepth 100000
set_option maxHeartbeats 1000000
set_option pp.maxSteps 300
/-! WK20: _law_refused -/
namespace DL
open PySem PySem.Spec PyProof.Rows L2
abbrev sRefused : Stmt := topS 55
theorem scRefused : FnScope ["_law_deal", "_law_kinds", "_law_batches", "_law_book_here", "_law_work", "_law_crowd_here", "_law_costs_here", "_law_odd", "_law_place", "_law_wrong", "_law_at", "_law_stray"] ["_law_deal", "_law_kinds", "_law_batches", "_law_book_here"] (defScope sRefused) := C8.fnScope_by (by decide +kernel)
def spRefused (C : Addr) : DSp := fun ds O Φ _ => ∃ D k bs, ds = [R D, I (k : Nat), lT bs, bookD C k bs] ∧ Book8 k bs ∧ DealOk O D ∧ ∀ O', Draws O O' D → Φ (B true) O'
/-- what either question does with what is wrong -/
def spAsk (cC cQ C : Addr) : DSp := fun ds O Φ Ψ => ∃ k bs d1 d2, ds = [bookD C k bs, d1, d2] ∧ BookOk k bs ∧ seqOk d1 ∧ seqOk d2 ∧ Asked cC cQ k d1 d2 O Ψ fun _ _ => False
theorem stray_none {n : Nat} {r : Int} (hr : 0 ≤ r) : ∀ x ∈ ([I (n : Int), I (-1), N, B true, B false, S "0", .tup [I 0], I ((n : Int) + r)] : List Dat), okD x = true ∧ idxOf x n = none := by
  intro x hx
  have hI : ∀ m : Int, ¬ (0 ≤ m ∧ m < (n : Int)) → okD (I m) = true ∧ idxOf (I m) n = none := fun m h => ⟨rfl, by show (if 0 ≤ m ∧ m < (n : Int) then some m.toNat else none) = none; rw [if_neg h]⟩
  rcases List.mem_cons.mp hx with e | hx
  · rw [e]; exact hI _ (by omega)
  rcases List.mem_cons.mp hx with e | hx
  · rw [e]; exact hI _ (by omega)
  rcases List.mem_cons.mp hx with e | hx
  · rw [e]; exact ⟨rfl, rfl⟩
  rcases List.mem_cons.mp hx with e | hx
  · rw [e]; exact ⟨rfl, rfl⟩
  rcases List.mem_cons.mp hx with e | hx
  · rw [e]; exact ⟨rfl, rfl⟩
  rcases List.mem_cons.mp hx with e | hx
  · rw [e]; exact ⟨rfl, rfl⟩
  rcases List.mem_cons.mp hx with e | hx
  · rw [e]; exact ⟨rfl, rfl⟩
  · have e := List.mem_singleton.mp hx
    rw [e]; exact hI _ (by omega)
section
variable {P : Program} {w : World} {K : PySem.W.Frag} {mg : Str → Option Value} {base : Heap} {T : List (Addr × Str)} {cB cC cR cQ cF C : Addr}
theorem cRefused (t : Tx K mg) {cd Pt : Addr} (i0 : Cal P w K mg base T CX0 "_law_any" 1 ["_law_deal", "_law_bound"] spAny) (i1 : Cal P w K mg base T CX0 "_law_of" 2 ["_law_deal", "_law_some"] spOf)
    (i2 : Cal P w K mg base T CX0 "_law_crowd" 2 ["_law_deal", "_law_kinds", "_law_most"] spCrowd) (i3 : Cal P w K mg base T CX0 "_law_costs" 2 ["_law_deal", "_law_kinds"] spCosts) (i4 : Cal P w K mg base T CX0 "_law_bad" 3 ["_law_deal", "_law_kinds", "_law_least"] spBad)
    (i5 : Cal P w K mg base T (L2.CX P w) "coming_cost" 44 ["book", "crowd", "costs"] (spComing cC cQ C)) (i6 : Cal P w K mg base T (L2.CX P w) "least_coming" 43 ["book", "crowd", "costs"] (spLeast cC cQ C))
    (i7 : Cal P w K mg base T (L2.CX P w) "added_cost" 45 ["book", "crowd", "batch", "costs"] (spAdded cC cR cQ C))
    (dr : Df K mg "_law_refusal" sRefusal ["_law_work"]) (RF : RfK K mg cC cR cQ cF) (LT : LamT T Pt "_law_refused")
    (d : DfL K mg base "_law_refused" sRefused ["_law_deal", "_law_kinds", "_law_batches", "_law_book_here"] cd Pt) :
    Cal P w K mg base T (L2.CX P w) "_law_refused" 48 ["_law_deal", "_law_kinds", "_law_batches", "_law_book_here"] (spRefused C) := by
  refine calL d scRefused (fun ds O Φ Ψ ⟨_, _, _, h, _⟩ => by rw [h]; rfl) fun f A outer s H E H0 O ds Φ Ψ hr ⟨D, k, bs, e, BO, hD, φ⟩ lk => ?_
  subst e
  have hk1 := BO.k1
  have hk3 := BO.k3
  have hu : (A.deeper (envOfC "_law_refused" (defScope sRefused) s.heap.objs.size f (.ref cd))).units + 64 < cLine := hr.units
  have LS : ∀ {sc : Scope}, LamX.lamSB (defScope sRefused) sc = true → LamX.LamS (defScope sRefused) sc := LamX.lamS_by
  -- the tail, whichever question is asked
  have main : ∀ (fW : Addr) (fd : FuncData) (dsp : DSp) (O1 : OHp), FnOk P w K mg base (L2.CX P w) 44 fW fd ["book", "crowd", "costs"] (lift T K dsp) → PySem.W.keepIn K (.ref fW) = true → Binds K fd ["book", "crowd", "costs"] [] → (∀ ds O Φ Ψ, spAsk cC cQ C ds O Φ Ψ → dsp ds O Φ Ψ) → Draws O O1 D →
      WSs ⟨T, H0, O, H⟩ (cxOf (L2.CX P w) P w K mg base ["_law_deal", "_law_kinds", "_law_batches", "_law_book_here", "_law_work", "_law_crowd_here", "_law_costs_here", "_law_odd", "_law_place", "_law_wrong", "_law_at", "_law_stray"] "_law_refused" (defScope sRefused) f (.ref cd) A outer s H E) ((defBody sRefused).drop 1)
        [some (R D), some (I (k : Int)), some (lT bs), some (bookD C k bs), some (R fW), none, none, none, none, none, none, none] O1 { nx := fun _ O' => Ret Φ (.v .non) O', rt := Ret Φ } := by
    intro fW fd dsp O1 F kp hb hd dr1
    refine wss_cons (ws_asg _ (pg2 5 6 scRefused.nd) (wd_tup (wa_two (wd_call i2 (hr.mono (by decide)) (wa_cons (wd_nm 0 rfl (wa_two (wd_nm 1 rfl (wd_int ⟨D, k, 4, rfl, hk1, hk3, by decide, dr1.ok, fun c O2 hcl hcn hcs dr2 => wd_call i3 (hr.mono (by decide)) (wa_two (wd_nm 0 rfl (wd_nm 1 rfl ⟨D, k, rfl, hk1, hk3, dr2.ok, fun costs O3 CO dr3 => ⟨by simp, rg2 ?_⟩⟩)))⟩)))))))))
    have CR : Cr5 k c := ⟨hcl, hcn, by omega⟩
    have lc : c.length ≤ 1000 := by omega
    have lq : costs.length ≤ 1000 := by rw [CO.l]; omega
    refine wss_cons (ws_asg _ (pg2 7 8 scRefused.nd) (wd_call i4 (hr.mono (by decide)) (wa_cons (wd_nm 0 rfl (wa_two (wd_nm 1 rfl (wd_int ⟨D, k, 0, rfl, hk1, hk3, by decide, by decide, dr3.ok, fun odd pl O4 bo dr4 => rg2 ?_⟩)))))))
    refine wss_cons (ws_asg _ (pg2 9 10 scRefused.nd) (wd_call i4 (hr.mono (by decide)) (wa_cons (wd_nm 0 rfl (wa_two (wd_nm 1 rfl (wd_int ⟨D, k, 1, rfl, hk1, hk3, by decide, by decide, dr4.ok, fun wrong at_ O5 bw dr5 => rg2 ?_⟩)))))))
    obtain ⟨so, bo⟩ := bo
    obtain ⟨sw, bw⟩ := bw
    rw [pD_num] at bo
    rw [pD_pos] at bw
    refine wss_cons (ws_set 11 (wd_call i1 (hr.mono (by decide)) (wa_two (wd_nm 0 rfl (wd_lst (wa_cons (wd_len t.len (wd_nm 2 rfl ⟨_, .inl .lst, wa_cons (wd_un un_neg (wd_int (ru_neg (wa_cons (wd_non (wa_cons (wd_bl (wa_cons (wd_bl (wa_cons (wd_str (wa_two (wd_tup (wa_1 (wd_int ⟨by simp, wd_op op_add (wd_len t.len (wd_nm 2 rfl ⟨_, .inl .lst, wd_call i0 (hr.mono (by decide)) (wa_two (wd_nm 0 rfl (wd_int ⟨D, 9, rfl, by decide, by decide, dr5.ok, fun r O6 r0 r1 dr6 => rr_I0 ⟨by simp, .inl ⟨D, _, rfl, by simp, by simp, dr6.ok, fun stray O7 hst dr7 => ?_⟩⟩⟩)))⟩))⟩)))))))))))))))⟩))))))) scRefused.nd)
    have st := stray_none r0 stray (by rw [List.length_map] at hst; exact hst)
    have D7 : Draws O O7 D := dr1.trans (dr2.trans (dr3.trans (dr4.trans (dr5.trans (dr6.trans dr7)))))
    have of2 : ∀ x ∈ [tI costs, wrong], seqOk x := fun x hx => by
      rcases List.mem_cons.mp hx with e | hx
      · rw [e]; exact seqOk_tI lq
      · rw [List.mem_singleton.mp hx]; exact sw
    -- 1: the crowd is odd
    refine wss_cons (ws_if (wt_cmp (op_neD hu) (wd_ref dr RF d.tab rfl LT.m LT.u hr (LS (by decide +kernel)) fun H0' H' A' outer' s' H'' E' f' c' hr' lk' px' => wd_callL 4 F kp hb (hr'.mono (by decide)) px' lk' (wa_cons (wd_nm 3 rfl (wa_two (wd_nm 7 rfl (wd_call i1 (hr'.mono (by decide)) (wa_two (wd_nm 0 rfl (wd_lst (wa_two (wd_nm 6 rfl (wd_nm 9 rfl ⟨by simp, .inl ⟨D, [tI costs, wrong], rfl, by simp, by simp, dr7.ok, fun x O8 hx dr8 => hd _ _ _ _ ⟨k, bs, odd, x, rfl, BO.toBookOk, so, of2 x hx, bo _ _ ?_⟩⟩⟩))))))))))))))
    refine ⟨"crowd", by simp [rfL], wd_tup (wa_two (wd_str (wd_nm 8 rfl ⟨by simp, rr_neD (seeP_si "crowd" pl) (seeP_si "crowd" pl) ⟨_, rfl, fun z2 => ?_, fun z2 => wss_nil ?_⟩⟩)))⟩
    · rw [eqv_si] at z2; cases z2
    -- 2: the costs are wrong
    refine wss_cons (ws_if (wt_cmp (op_neD hu) (wd_ref dr RF d.tab rfl LT.m LT.u hr (LS (by decide +kernel)) fun H0' H' A' outer' s' H'' E' f' c' hr' lk' px' => wd_callL 4 F kp hb (hr'.mono (by decide)) px' lk' (wa_cons (wd_nm 3 rfl (wa_two (wd_nm 5 rfl (wd_nm 9 rfl (hd _ _ _ _ ⟨k, bs, tI c, wrong, rfl, BO.toBookOk, seqOk_tI lc, sw, chk_num CR.ok ⟨c, rfl, CR.ok, bw _ _ ?_⟩⟩)))))))))
    refine ⟨"costs", by simp [rfL], wd_tup (wa_two (wd_str (wd_nm 10 rfl ⟨by simp, rr_neD (seeP_si "costs" at_) (seeP_si "costs" at_) ⟨_, rfl, fun z2 => ?_, fun z2 => wss_nil ?_⟩⟩)))⟩
    · rw [eqv_si] at z2; cases z2
    -- 3: the crowd is odd, the batch may be
    refine wss_cons (ws_if (wt_cmp (op_neD hu) (wd_ref dr RF d.tab rfl LT.m LT.u hr (LS (by decide +kernel)) fun H0' H' A' outer' s' H'' E' f' c' hr' lk' px' => wd_callX i7 hr' px' lk' (wa_cons (wd_nm 3 rfl (wa_cons (wd_nm 7 rfl (wa_two (wd_call i1 (hr'.mono (by decide)) (wa_two (wd_nm 0 rfl (wd_lst (wa_two (wd_nm 11 rfl (wd_int ⟨by simp, .inl ⟨D, [stray, I 0], rfl, by simp, by simp, dr8.ok, fun x O9 hx dr9 => wd_nm 6 rfl ⟨k, bs, odd, x, tI costs, rfl, BO.toBookOk, so, ?_, seqOk_tI lq, bo _ _ ?_⟩⟩⟩)))))))))))))))
    · rcases List.mem_cons.mp hx with e | hx
      · rw [e]; exact st.1
      · rw [List.mem_singleton.mp hx]; rfl
    refine ⟨"crowd", by simp [rfL], wd_tup (wa_two (wd_str (wd_nm 8 rfl ⟨by simp, rr_neD (seeP_si "crowd" pl) (seeP_si "crowd" pl) ⟨_, rfl, fun z2 => ?_, fun z2 => wss_nil ?_⟩⟩)))⟩
    · rw [eqv_si] at z2; cases z2
    have DD : Draws O O9 D := D7.trans (dr8.trans dr9)
    -- 5: the batch is astray
    have last : ∀ E5 : EnD, E5.rt = Ret Φ → WSs ⟨T, H0, O, H⟩ (cxOf (L2.CX P w) P w K mg base ["_law_deal", "_law_kinds", "_law_batches", "_law_book_here", "_law_work", "_law_crowd_here", "_law_costs_here", "_law_odd", "_law_place", "_law_wrong", "_law_at", "_law_stray"] "_law_refused" (defScope sRefused) f (.ref cd) A outer s H E) ((defBody sRefused).drop 9)
        [some (R D), some (I (k : Int)), some (lT bs), some (bookD C k bs), some (R fW), some (tI c), some (tI costs), some odd, some (I pl), some wrong, some (I at_), some stray] O9 E5 := by
      intro E5 hE5
      refine wss_one (ws_ret ?_)
      rw [hE5]
      refine ret_val (wd_cmp (op_eqD hu) (wd_ref dr RF d.tab rfl LT.m LT.u hr (LS (by decide +kernel)) fun H0' H' A' outer' s' H'' E' f' c' hr' lk' px' => wd_callX i7 hr' px' lk' (wa_cons (wd_nm 3 rfl (wa_cons (wd_nm 5 rfl (wa_two (wd_nm 11 rfl (wd_call i1 (hr'.mono (by decide)) (wa_two (wd_nm 0 rfl (wd_lst (wa_two (wd_nm 6 rfl (wd_nm 9 rfl ⟨by simp, .inl ⟨D, [tI costs, wrong], rfl, by simp, by simp, DD.ok, fun x O8 hx dr8 => ⟨k, bs, tI c, stray, x, rfl, BO.toBookOk, seqOk_tI lc, st.1, of2 x hx, chk_num CR.ok ⟨c, rfl, CR.ok, ?_⟩⟩⟩⟩)))))))))))))))
      rw [st.2]
      refine ⟨"run", by simp [rfL], wd_tup (wa_two (wd_str (wd_int ⟨by simp, rr_eqD (seeP_si "run" 0) (seeP_si "run" 0) ?_⟩)))⟩
      rw [eqv_si]
      exact φ _ (DD.trans dr8)
    -- 4: a batch asked for
    refine wss_cons (ws_if (wt_ww (ww_and (wt_cmp (op_neD hu) (wd_nm 2 rfl (wd_lst (wa_nil ⟨by simp, .inl (rr_neD (seeP_lT bs) seeP_nil ⟨_, rfl, fun q => ⟨(fun z => nomatch z), fun _ => wss_nil (last _ rfl)⟩, fun q => ?_⟩)⟩)))))))
    rw [eqv_nil, isE_map] at q
    obtain ⟨b, bs', rfl⟩ : ∃ b bs', bs = b :: bs' := by
      cases bs with
      | nil => cases q
      | cons b bs' => exact ⟨b, bs', rfl⟩
    obtain ⟨b1, b2, b3⟩ := BO.b b List.mem_cons_self
    have COb : CrOk k b := ⟨b1, fun x hx => by
      obtain ⟨j, _, e⟩ := mem_g0 hx
      have := g0_le_sum b2 j
      have := BO.s8 b List.mem_cons_self
      have := b2 x hx
      omega⟩
    refine ww_and1 (wt_cmp (op_neD hu) (wd_ref dr RF d.tab rfl LT.m LT.u hr (LS (by decide +kernel)) fun H0' H' A' outer' s' H'' E' f' c' hr' lk' px' => wd_callX i7 hr' px' lk' (wa_cons (wd_nm 3 rfl (wa_cons (wd_ixL (wd_nm 2 rfl (wd_int ⟨(b :: bs').map tI, 0, tI b, .lst, rfl, atI_nat (j := 0) rfl, wa_two (wd_int (wd_nm 9 rfl ⟨k, b :: bs', tI b, I 0, wrong, rfl, BO.toBookOk, seqOk_tI (by omega), rfl, sw, chk_num COb ⟨b, rfl, COb, ?_⟩⟩))⟩))))))))
    have hix : idxOf (I 0) (b :: bs').length = some 0 := by
      show (if 0 ≤ (0 : Int) ∧ (0 : Int) < ((b :: bs').length : Int) then some (0 : Int).toNat else none) = some 0
      rw [if_pos ⟨by omega, by rw [List.length_cons]; omega⟩]; rfl
    rw [hix]
    show (leCr b b = false → _) ∧ (leCr b b = true → _)
    refine ⟨fun z2 => (by rw [leCr_refl] at z2; cases z2), fun _ => bw _ _ ?_⟩
    refine ⟨"costs", by simp [rfL], wd_tup (wa_two (wd_str (wd_nm 10 rfl ⟨by simp, rr_neD (seeP_si "costs" at_) (seeP_si "costs" at_) ⟨_, rfl, fun z2 => ?_, fun z2 => wss_nil (last _ rfl)⟩⟩)))⟩
    rw [eqv_si] at z2; cases z2
  -- which question
  obtain ⟨f5, fd5, F5, m5, k5, b5⟩ := i5.ex
  obtain ⟨f6, fd6, F6, m6, k6, b6⟩ := i6.ex
  refine wss_cons (ws_set 4 (wd_call i1 (hr.mono (by decide)) (wa_two (wd_nm 0 rfl (wd_lst (wa_two (wd_glob m5 (wd_glob m6 ⟨by simp, .inl ⟨D, [R f5, R f6], rfl, by simp, by simp, hD, fun x O1 hx dr1 => ?_⟩⟩))))))) scRefused.nd)
  rcases List.mem_cons.mp hx with e | hx
  · subst e
    exact main f5 fd5 _ O1 F5 k5 b5 (fun ds O Φ Ψ ⟨k, bs, d1, d2, e, B, s1, s2, a⟩ => ⟨k, bs, d1, d2, e, B, s1, s2, a.mono fun _ _ _ _ _ z => z.elim⟩) dr1
  · have e := List.mem_singleton.mp hx
    subst e
    exact main f6 fd6 _ O1 (F6.mono (by decide)) k6 b6 (fun ds O Φ Ψ ⟨k, bs, d1, d2, e, B, s1, s2, a⟩ => ⟨k, bs, d1, d2, e, B, s1, s2, a.mono fun _ _ _ _ _ z => z.elim⟩) dr1
end
end DL

set_option Elab.async false
set_option linter.all false
set_option maxRecDepth 100000
set_option maxHeartbeats 1000000
set_option pp.maxSteps 300
/-! PL4: the found batches of a told book: finite checks -/
namespace DL
open PySem PySem.Spec PyProof.Rows L2
/-- all lists of length k with entries lo, lo+1, .., lo+n-1 -/
def boxI (lo : Int) (n : Nat) : Nat → List (List Int)
  | 0 => [[]]
  | k + 1 => (List.range n).flatMap fun (i : Nat) => (boxI lo n k).map ((lo + (i : Int)) :: ·)
theorem boxI_mem {lo : Int} {n : Nat} : ∀ {k : Nat} {c : List Int}, c.length = k → (∀ x ∈ c, lo ≤ x ∧ x < lo + n) → c ∈ boxI lo n k
  | 0, [], _, _ => by simp [boxI]
  | k + 1, x :: c, h, hx => by
    have h1 := hx x List.mem_cons_self
    have ih := boxI_mem (k := k) (c := c) (by simpa using h) fun y hy => hx y (List.mem_cons_of_mem _ hy)
    unfold boxI
    refine List.mem_flatMap.mpr ⟨(x - lo).toNat, List.mem_range.mpr (by omega), List.mem_map.mpr ⟨c, ih, ?_⟩⟩
    have : lo + ((x - lo).toNat : Int) = x := by omega
    rw [this]
theorem boxI_of {lo : Int} {n : Nat} : ∀ {k : Nat} {c : List Int}, c ∈ boxI lo n k → c.length = k ∧ ∀ x ∈ c, lo ≤ x ∧ x < lo + n
  | 0, c, h => by
    have h := List.mem_singleton.mp h
    subst h
    exact ⟨rfl, fun x hx => by simp at hx⟩
  | k + 1, c, h => by
    unfold boxI at h
    obtain ⟨i, hi, h⟩ := List.mem_flatMap.mp h
    obtain ⟨c', h', rfl⟩ := List.mem_map.mp h
    have hi := List.mem_range.mp hi
    obtain ⟨a1, a2⟩ := boxI_of h'
    refine ⟨by simp [a1], fun x hx => ?_⟩
    rcases List.mem_cons.mp hx with e | hx
    · omega
    · exact a2 x hx
/-- the small crowds -/
def smalls (n k : Nat) : List (List Int) := (boxI 0 n k).filter fun u => decide (1 ≤ u.sum) && decide (u.sum ≤ 6)
/-- a small part of v that is zero -/
def small (cls : List Int) (rows : List (List Int)) (v : List Int) (us : List (List Int)) : Bool := us.any fun u => leCr u v && zeroB cls rows u
/-- not cut, and not zero or empty -/
def plain (cls : List Int) (rows : List (List Int)) (L : Int) (w : List Int) : Bool := (w.all fun x => decide (x < L)) && (!(zeroB cls rows w) || decide (w.sum < 1))
def chkW (cls : List Int) (rows : List (List Int)) (L k : Nat) : Bool := (boxI 0 (L + 1) k).all fun w => plain cls rows L w || (decide (w.sum < 1) || small cls rows w (smalls (L + 1) k))
def chk1 (cl : Int) (L k : Nat) : Bool := (boxI 0 cl.toNat k).all fun row => chkW [cl] [row] L k
def chk22 (k : Nat) : Bool := (boxI 0 2 k).all fun r1 => (boxI 0 2 k).all fun r2 => chkW [2, 2] [r1, r2] 2 k
theorem c2 : (chk1 2 2 1 && (chk1 2 2 2 && chk1 2 2 3)) = true := by decide +kernel
theorem c3 : (chk1 3 3 1 && (chk1 3 3 2 && chk1 3 3 3)) = true := by decide +kernel
theorem c4 : (chk1 4 4 1 && (chk1 4 4 2 && chk1 4 4 3)) = true := by decide +kernel
theorem c5 : (chk1 5 5 1 && (chk1 5 5 2 && chk1 5 5 3)) = true := by decide +kernel
theorem c22 : (chk22 1 && (chk22 2 && chk22 3)) = true := by decide +kernel
def clipOk (s : Int) (row w : List Int) : Bool := (w.zip row).all fun p => decide (p.1 < 2) || decide (0 ≤ s * p.2)
/-- no greater crowd that is cut to w can be zero -/
def obstr (row w : List Int) : Bool := decide (w.sum < 1) || ((decide (0 < dot w row) && clipOk 1 row w) || (decide (dot w row < 0) && clipOk (-1) row w))
def chk0 (k : Nat) : Bool := (boxI (-2) 5 k).all fun row => (boxI 0 3 k).all fun w => obstr row w || small [0] [row] w (smalls 3 k)
theorem c0 : (chk0 1 && (chk0 2 && chk0 3)) = true := by decide +kernel
end DL

set_option Elab.async false
set_option linter.all false
set_option maxRecDepth 100000
set_option maxHeartbeats 1000000
set_option pp.maxSteps 300
/-! PL5: a told book with names: a zero crowd has a small zero part -/
namespace DL
open PySem PySem.Spec PyProof.Rows L2
def clip (L : Int) (v : List Int) : List Int := v.map fun x => if x < L then x else L
theorem clip_g0 {L : Int} (hL : 0 < L) (v : List Int) (j : Nat) : g0 (clip L v) j = if g0 v j < L then g0 v j else L := by
  unfold g0 clip
  rw [List.getD_eq_getElem?_getD, List.getD_eq_getElem?_getD, List.getElem?_map]
  cases v[j]? with
  | none => simp [hL]
  | some x => rfl
theorem clip_box {L : Nat} {k : Nat} {v : List Int} (hl : v.length = k) (hn : ∀ x ∈ v, 0 ≤ x) : clip L v ∈ boxI 0 (L + 1) k := by
  refine boxI_mem (by simp [clip, hl]) fun x hx => ?_
  obtain ⟨y, hy, rfl⟩ := List.mem_map.mp hx
  have := hn y hy
  split <;> omega
theorem clip_same {L : Int} {v : List Int} (h : ((clip L v).all fun x => decide (x < L)) = true) : clip L v = v := by
  unfold clip at h ⊢
  have : ∀ x ∈ v, (if x < L then x else L) = x := fun x hx => by
    have := List.all_eq_true.mp h _ (List.mem_map.mpr ⟨x, hx, rfl⟩)
    have := of_decide_eq_true this
    split
    · rfl
    · rename_i q; rw [if_neg q] at this; omega
  rw [List.map_congr_left this, List.map_id']
theorem clip_nn {L : Int} (hL : 0 < L) {v : List Int} (hn : ∀ x ∈ v, 0 ≤ x) : ∀ x ∈ clip L v, 0 ≤ x := fun x hx => by
  obtain ⟨y, hy, rfl⟩ := List.mem_map.mp hx
  have := hn y hy
  split <;> omega
theorem clip_pos {L : Int} (hL : 0 < L) {v : List Int} (hn : ∀ x ∈ v, 0 ≤ x) (hs : 1 ≤ v.sum) : 1 ≤ (clip L v).sum := by
  obtain ⟨x, hx, h0⟩ := sum_pos_ex (a := v) (by omega)
  obtain ⟨j, _, e⟩ := mem_g0 hx
  have h1 := g0_le_sum (clip_nn hL hn) j
  rw [clip_g0 hL, e] at h1
  split at h1 <;> omega
theorem clip_le {L : Int} (hL : 0 < L) {v u : List Int} (hl : u.length = v.length) (h : leCr u (clip L v) = true) : leCr u v = true := by
  refine (leCr_iff hl).mpr fun j => ?_
  have := (leCr_iff (by simp [clip, hl])).mp h j
  rw [clip_g0 hL] at this
  split at this <;> omega
/-- a small zero part -/
def SmallEx (k : Nat) (cls : List Int) (rows : List (List Int)) (v : List Int) : Prop := ∃ u, u.length = k ∧ (∀ x ∈ u, 0 ≤ x) ∧ leCr u v = true ∧ zeroB cls rows u = true ∧ 1 ≤ u.sum ∧ u.sum ≤ 6
theorem small_of {k n : Nat} {cls : List Int} {rows : List (List Int)} {v : List Int} (h : small cls rows v (smalls n k) = true) : SmallEx k cls rows v := by
  obtain ⟨u, hu, h⟩ := List.any_eq_true.mp h
  obtain ⟨h1, h2⟩ := Bool.and_eq_true_iff.mp h
  obtain ⟨h3, h4⟩ := List.mem_filter.mp hu
  obtain ⟨h5, h6⟩ := Bool.and_eq_true_iff.mp h4
  obtain ⟨a1, a2⟩ := boxI_of h3
  exact ⟨u, a1, fun x hx => (a2 x hx).1, h1, h2, of_decide_eq_true h5, of_decide_eq_true h6⟩
theorem small_up {k : Nat} {cls : List Int} {rows : List (List Int)} {L : Int} (hL : 0 < L) {v : List Int} (hl : v.length = k) (h : SmallEx k cls rows (clip L v)) : SmallEx k cls rows v := by
  obtain ⟨u, a, b, c, d⟩ := h
  exact ⟨u, a, b, clip_le hL (by rw [a, hl]) c, d⟩
theorem small_chk {k L : Nat} {cls : List Int} {rows : List (List Int)} (hL : 0 < L) (h : chkW cls rows L k = true) {v : List Int} (hl : v.length = k) (hn : ∀ x ∈ v, 0 ≤ x) (hs : 1 ≤ v.sum) (hz : zeroB cls rows v = true) : SmallEx k cls rows v := by
  have hL' : (0 : Int) < (L : Int) := by omega
  have := List.all_eq_true.mp h _ (clip_box (L := L) hl hn)
  rcases Bool.or_eq_true_iff.mp this with q | q
  · obtain ⟨q1, q2⟩ := Bool.and_eq_true_iff.mp q
    rw [clip_same q1] at q2
    rw [hz] at q2
    have := of_decide_eq_true (by simpa using q2 : decide (v.sum < 1) = true)
    omega
  · rcases Bool.or_eq_true_iff.mp q with q | q
    · have := of_decide_eq_true q
      have := clip_pos hL' hn hs
      omega
    · exact small_up hL' hl (small_of q)
end DL

set_option Elab.async false
set_option linter.all false
set_option maxRecDepth 100000
set_option maxHeartbeats 1000000
set_option pp.maxSteps 300
/-! PL6: a told book with names: a zero crowd has a small zero part (the cases) -/
namespace DL
open PySem PySem.Spec PyProof.Rows L2
theorem pick3 {f : Nat → Bool} (h : (f 1 && (f 2 && f 3)) = true) {k : Nat} (h1 : 1 ≤ k) (h3 : k ≤ 3) : f k = true := by
  obtain ⟨a, h⟩ := Bool.and_eq_true_iff.mp h
  obtain ⟨b, c⟩ := Bool.and_eq_true_iff.mp h
  match k, h1, h3 with
  | 1, _, _ => exact a
  | 2, _, _ => exact b
  | 3, _, _ => exact c
theorem one_row {k : Nat} {cl : Int} {rows : List (List Int)} (NO : NamesOk k [cl] rows) : ∃ row, rows = [row] ∧ row.length = k ∧ ∀ x ∈ row, if 0 < cl then 0 ≤ x ∧ x < cl else -2 ≤ x ∧ x ≤ 2 := by
  match rows, NO.l with
  | [row], _ => exact ⟨row, rfl, NO.r 0 cl row rfl rfl⟩
theorem small_clock {k L : Nat} {cl : Int} {rows : List (List Int)} (hc : 0 < cl) (hL : 0 < L) (h : (chk1 cl L 1 && (chk1 cl L 2 && chk1 cl L 3)) = true) (h1 : 1 ≤ k) (h3 : k ≤ 3) (NO : NamesOk k [cl] rows) {v : List Int} (hl : v.length = k) (hn : ∀ x ∈ v, 0 ≤ x) (hs : 1 ≤ v.sum) (hz : zeroB [cl] rows v = true) : SmallEx k [cl] rows v := by
  obtain ⟨row, rfl, r1, r2⟩ := one_row NO
  have := pick3 (f := chk1 cl L) h h1 h3
  refine small_chk hL (List.all_eq_true.mp this row (boxI_mem r1 fun x hx => ?_)) hl hn hs hz
  have := r2 x hx
  rw [if_pos hc] at this
  omega
theorem small_two {k : Nat} {rows : List (List Int)} (h1 : 1 ≤ k) (h3 : k ≤ 3) (NO : NamesOk k [2, 2] rows) {v : List Int} (hl : v.length = k) (hn : ∀ x ∈ v, 0 ≤ x) (hs : 1 ≤ v.sum) (hz : zeroB [2, 2] rows v = true) : SmallEx k [2, 2] rows v := by
  obtain ⟨ra, rb, rfl⟩ : ∃ ra rb, rows = [ra, rb] := by
    match rows, NO.l with
    | [ra, rb], _ => exact ⟨ra, rb, rfl⟩
  obtain ⟨a1, a2⟩ := NO.r 0 2 ra rfl rfl
  obtain ⟨b1, b2⟩ := NO.r 1 2 rb rfl rfl
  have := pick3 (f := chk22) c22 h1 h3
  have := List.all_eq_true.mp this ra (boxI_mem a1 fun x hx => by have := a2 x hx; rw [if_pos (by decide)] at this; omega)
  have := List.all_eq_true.mp this rb (boxI_mem b1 fun x hx => by have := b2 x hx; rw [if_pos (by decide)] at this; omega)
  exact small_chk (L := 2) (by decide) this hl hn hs hz
/-- a cut crowd whose sum has a sign keeps it -/
theorem obstr_up {s : Int} (hs : s = 1 ∨ s = -1) : ∀ {row v : List Int}, row.length = v.length → (∀ x ∈ v, 0 ≤ x) → clipOk s row (clip 2 v) = true → s * dot (clip 2 v) row ≤ s * dot v row
  | [], [], _, _, _ => by simp [clip]
  | r :: row, x :: v, hl, hn, h => by
    have h : ((decide ((if x < 2 then x else 2) < 2) || decide (0 ≤ s * r)) && clipOk s row (clip 2 v)) = true := h
    obtain ⟨h1, h2⟩ := Bool.and_eq_true_iff.mp h
    have ih := obstr_up hs (row := row) (v := v) (by simpa using hl) (fun y hy => hn y (List.mem_cons_of_mem _ hy)) h2
    have hx := hn x List.mem_cons_self
    have e1 : dot (clip 2 (x :: v)) (r :: row) = (if x < 2 then x else 2) * r + dot (clip 2 v) row := by simp [dot, clip]
    have e2 : dot (x :: v) (r :: row) = x * r + dot v row := by simp [dot]
    rw [e1, e2, Int.mul_add, Int.mul_add]
    have : s * ((if x < 2 then x else 2) * r) ≤ s * (x * r) := by
      by_cases q : x < 2
      · rw [if_pos q]; exact Int.le_refl _
      · rw [if_neg q] at h1 ⊢
        have h1 : 0 ≤ s * r := by simpa using h1
        have : 2 * (s * r) ≤ x * (s * r) := Int.mul_le_mul_of_nonneg_right (by omega) h1
        have e3 : s * (2 * r) = 2 * (s * r) := by rw [Int.mul_left_comm]
        have e4 : s * (x * r) = x * (s * r) := by rw [Int.mul_left_comm]
        omega
    omega
theorem small_bal {k : Nat} {rows : List (List Int)} (h1 : 1 ≤ k) (h3 : k ≤ 3) (NO : NamesOk k [0] rows) {v : List Int} (hl : v.length = k) (hn : ∀ x ∈ v, 0 ≤ x) (hs : 1 ≤ v.sum) (hz : zeroB [0] rows v = true) : SmallEx k [0] rows v := by
  obtain ⟨row, rfl, r1, r2⟩ := one_row NO
  have := pick3 (f := chk0) c0 h1 h3
  have := List.all_eq_true.mp this row (boxI_mem r1 fun x hx => by have := r2 x hx; rw [if_neg (by decide)] at this; omega)
  have := List.all_eq_true.mp this (clip 2 v) (clip_box (L := 2) hl hn)
  have hz : dot v row = 0 := by simpa [zeroB, zero1] using hz
  have hd : ∀ s : Int, s = 1 ∨ s = -1 → clipOk s row (clip 2 v) = true → s * dot (clip 2 v) row ≤ 0 := fun s q1 q2 => by
    have := obstr_up q1 (by rw [r1, hl]) hn q2
    rw [hz] at this
    simpa using this
  rcases Bool.or_eq_true_iff.mp this with q | q
  · exfalso
    rcases Bool.or_eq_true_iff.mp q with q | q
    · have := of_decide_eq_true q
      have := clip_pos (L := 2) (by decide) hn hs
      omega
    · rcases Bool.or_eq_true_iff.mp q with q | q
      · obtain ⟨q1, q2⟩ := Bool.and_eq_true_iff.mp q
        have := of_decide_eq_true q1
        have := hd 1 (.inl rfl) q2
        omega
      · obtain ⟨q1, q2⟩ := Bool.and_eq_true_iff.mp q
        have := of_decide_eq_true q1
        have := hd (-1) (.inr rfl) q2
        omega
  · exact small_up (L := 2) (by decide) hl (small_of q)
theorem small_named {k : Nat} {cls : List Int} {rows : List (List Int)} (h1 : 1 ≤ k) (h3 : k ≤ 3) (NO : NamesOk k cls rows) {v : List Int} (hl : v.length = k) (hn : ∀ x ∈ v, 0 ≤ x) (hs : 1 ≤ v.sum) (hz : zeroB cls rows v = true) : SmallEx k cls rows v := by
  have h := NO.c
  simp only [List.mem_cons, List.not_mem_nil, or_false] at h
  rcases h with e | e | e | e | e | e <;> subst e
  · exact small_clock (L := 2) (by decide) (by decide) c2 h1 h3 NO hl hn hs hz
  · exact small_clock (L := 3) (by decide) (by decide) c3 h1 h3 NO hl hn hs hz
  · exact small_clock (L := 4) (by decide) (by decide) c4 h1 h3 NO hl hn hs hz
  · exact small_two h1 h3 NO hl hn hs hz
  · exact small_bal h1 h3 NO hl hn hs hz
  · exact small_clock (L := 5) (by decide) (by decide) c5 h1 h3 NO hl hn hs hz
end DL

set_option Elab.async false
set_option linter.all false
set_option maxRecDepth 100000
set_option maxHeartbeats 1000000
set_option pp.maxSteps 300
/-! PL7: a told book with names: what is zero is a sum of batches; a batch more leaves the coming cost -/
namespace DL
open PySem PySem.Spec PyProof.Rows L2
theorem zero1_iff {cl : Int} {row c : List Int} : zero1 cl row c = true ↔ cl ∣ dot c row := by
  unfold zero1
  by_cases h : cl = 0
  · subst h; simp
  · constructor
    · intro q
      rcases Bool.or_eq_true_iff.mp q with q | q
      · rw [of_decide_eq_true q]; exact Int.dvd_zero _
      · obtain ⟨_, q⟩ := Bool.and_eq_true_iff.mp q
        exact Int.dvd_of_emod_eq_zero (of_decide_eq_true q)
    · intro q
      have := Int.emod_eq_zero_of_dvd q
      simp [h, this]
theorem zeroB_sub {k : Nat} {cls : List Int} {rows : List (List Int)} {v u : List Int} (hl : v.length = u.length) (h1 : zeroB cls rows v = true) (h2 : zeroB cls rows u = true) : zeroB cls rows (subC v u) = true := by
  refine List.all_eq_true.mpr fun p hp => zero1_iff.mpr ?_
  rw [dot_sub hl]
  exact Int.dvd_sub (zero1_iff.mp (List.all_eq_true.mp h1 p hp)) (zero1_iff.mp (List.all_eq_true.mp h2 p hp))
theorem fold_keep (cls : List Int) (rows : List (List Int)) : ∀ (cs found : List (List Int)) (f : List Int), f ∈ found → f ∈ cs.foldl (stepN cls rows) found
  | [], found, f, h => h
  | c :: cs, found, f, h => fold_keep cls rows cs _ f (by unfold stepN; split; exact List.mem_append_left _ h; exact h)
theorem fold_found (cls : List Int) (rows : List (List Int)) : ∀ (cs found : List (List Int)) (u : List Int), u ∈ cs → zeroB cls rows u = true → ∃ f ∈ cs.foldl (stepN cls rows) found, leCr f u = true
  | c :: cs, found, u, h, hz => by
    rcases List.mem_cons.mp h with e | h
    · subst e
      rw [List.foldl_cons]
      by_cases q : (found.filter fun f => leCr f u) = []
      · refine ⟨u, fold_keep cls rows cs _ u ?_, leCr_refl u⟩
        unfold stepN
        rw [if_pos ⟨hz, q⟩]
        exact List.mem_append_right _ List.mem_cons_self
      · obtain ⟨f, hf⟩ := List.exists_mem_of_ne_nil _ q
        obtain ⟨f1, f2⟩ := List.mem_filter.mp hf
        refine ⟨f, fold_keep cls rows cs _ f ?_, f2⟩
        unfold stepN
        rw [if_neg fun z => q z.2]
        exact f1
    · exact fold_found cls rows cs _ u h hz
end DL

set_option Elab.async false
set_option linter.all false
set_option maxRecDepth 100000
set_option maxHeartbeats 1000000
set_option pp.maxSteps 300
/-! PL8: what is zero is a sum of batches -/
namespace DL
open PySem PySem.Spec PyProof.Rows L2
theorem clr_cons {k : Nat} {bs : List (List Int)} {v f : List Int} (hl : v.length = f.length) (hf : f ∈ bs) (h : Clr bs (subC v f)) : Clr bs v := by
  obtain ⟨run, h1, h2⟩ := h
  obtain ⟨i, hi⟩ := List.getElem?_of_mem hf
  refine ⟨i :: run, fun a ha => (List.mem_cons.mp ha).elim (fun e => by rw [e]; exact (List.getElem?_eq_some_iff.mp hi).1) (h1 a), fun j => ?_⟩
  rw [col_cons, bat_get hi, ← h2 j, sub_g0 hl]
  omega
theorem named_dec {k : Nat} {cls : List Int} {rows : List (List Int)} (h1 : 1 ≤ k) (h3 : k ≤ 3) (NO : NamesOk k cls rows) : ∀ (n : Nat) (v : List Int), v.sum ≤ n → v.length = k → (∀ x ∈ v, 0 ≤ x) → zeroB cls rows v = true → Clr ((namedR cls rows k).mergeSort leC) v := by
  intro n
  induction n with
  | zero =>
    intro v hs hl hn hz
    refine ⟨[], fun a ha => by simp at ha, fun j => ?_⟩
    have := g0_le_sum hn j
    have := g0_nn hn j
    simp only [colRun, List.map_nil, List.sum_nil]
    omega
  | succ n ih =>
    intro v hs hl hn hz
    by_cases q : v.sum < 1
    · refine ⟨[], fun a ha => by simp at ha, fun j => ?_⟩
      have := g0_le_sum hn j
      have := g0_nn hn j
      simp only [colRun, List.map_nil, List.sum_nil]
      omega
    · obtain ⟨u, u1, u2, u3, u4, u5, u6⟩ := small_named h1 h3 NO hl hn (by omega) hz
      obtain ⟨f, f1, f2⟩ := fold_found cls rows (allC k) [] u ((allC_mem h1).mpr ⟨u1, u2, by omega, by omega⟩) u4
      have f1 : f ∈ namedR cls rows k := f1
      obtain ⟨g1, g2⟩ := namedR_mem f1
      obtain ⟨l1, l2, l3, l4⟩ := (allC_mem h1).mp g1
      have hvf : v.length = f.length := by rw [hl, l1]
      have le1 := (leCr_iff (by rw [l1, u1])).mp f2
      have le2 := (leCr_iff (by rw [u1, hl])).mp u3
      refine clr_cons (k := k) hvf ((List.mergeSort_perm _ _).mem_iff.mpr f1) (ih _ ?_ (by simp [subC]; omega) (fun x hx => ?_) (zeroB_sub (k := k) hvf hz g2))
      · rw [sum_sub hvf]; omega
      · obtain ⟨j, _, e⟩ := mem_g0 hx
        rw [sub_g0 hvf] at e
        have := le1 j
        have := le2 j
        omega
end DL

set_option Elab.async false
set_option linter.all false
set_option maxRecDepth 100000
set_option maxHeartbeats 1000000
set_option pp.maxSteps 300
/-! PL9: a batch more leaves the coming cost of a told book with names -/
namespace DL
open PySem PySem.Spec PyProof.Rows L2
theorem dvd_run {bs : List (List Int)} {row : List Int} {cl : Int} (h : ∀ b ∈ bs, cl ∣ dot b row) : ∀ {run : List Nat}, okIdx bs run → cl ∣ costRun bs row run
  | [], _ => by simp [costRun]
  | i :: run, hi => by
    rw [cost_cons]
    exact Int.dvd_add (h _ (bat_mem (hi i List.mem_cons_self))) (dvd_run h fun a ha => hi a (List.mem_cons_of_mem _ ha))
theorem named_add {k : Nat} {cls : List Int} {rows : List (List Int)} {bs : List (List Int)} (h1 : 1 ≤ k) (h3 : k ≤ 3) (NO : NamesOk k cls rows) (hbs : bs = (namedR cls rows k).mergeSort leC) (B : BatOk k bs) {c b costs : List Int} (hc : c.length = k) (hcn : ∀ x ∈ c, 0 ≤ x) (hb : b ∈ bs)
    {r r' : Option (Int × List Nat)} (h : CovOK bs costs c r) (h' : CovOK bs costs (addC c b) r') : comD costs c r = comD costs (addC c b) r' := by
  obtain ⟨b1, b2, b3⟩ := B.b b hb
  have hl : c.length = b.length := by rw [hc, b1]
  obtain ⟨i, hi⟩ := List.getElem?_of_mem hb
  have hil := (List.getElem?_eq_some_iff.mp hi).1
  have down : ∀ {run}, Cov bs (addC c b) run → Cov bs c run := fun {run} q => ⟨q.1, fun j => by
    have := q.2 j
    rw [add_g0 hl] at this
    have := g0_nn b2 j
    omega⟩
  have up : ∀ {run}, Cov bs c run → Cov bs (addC c b) (i :: run) := fun {run} q => ⟨fun a ha => (List.mem_cons.mp ha).elim (fun e => by rw [e]; exact hil) (q.1 a), fun j => by
    rw [col_cons, bat_get hi, add_g0 hl]
    have := q.2 j
    omega⟩
  cases r with
  | none => cases r' with
    | none => rfl
    | some e' => exact absurd (down h'.1) (h e'.2)
  | some e => cases r' with
    | none => exact absurd (up h.1) (h' _)
    | some e' =>
      obtain ⟨c1, c2, c3, c4⟩ := h
      obtain ⟨d1, d2, d3, d4⟩ := h'
      have a1 := d4 _ (up c1)
      rw [cost_cons, bat_get hi] at a1
      have hbl : ∀ b ∈ bs, b.length = k := fun b hb => (B.b b hb).1
      have sl : (sumRun k bs e'.2).length = k := sumRun_len hbl d1.1
      have hvb : (sumRun k bs e'.2).length = b.length := by rw [sl, b1]
      have z1 : ∀ x ∈ bs, zeroB cls rows x = true := fun x hx => by
        rw [hbs] at hx
        exact (namedR_mem ((List.mergeSort_perm _ _).mem_iff.mp hx)).2
      have zV : zeroB cls rows (sumRun k bs e'.2) = true := List.all_eq_true.mpr fun p hp => zero1_iff.mpr (by
        rw [sumRun_cost hbl d1.1]
        exact dvd_run (fun x hx => zero1_iff.mp (List.all_eq_true.mp (z1 x hx) p hp)) d1.1)
      have gW : ∀ j, g0 c j ≤ g0 (subC (sumRun k bs e'.2) b) j := fun j => by
        rw [sub_g0 hvb, sumRun_col hbl d1.1]
        have := d1.2 j
        rw [add_g0 hl] at this
        omega
      have wl : (subC (sumRun k bs e'.2) b).length = k := by simp [subC]; omega
      have wn : ∀ x ∈ subC (sumRun k bs e'.2) b, 0 ≤ x := fun x hx => by
        obtain ⟨j, _, e0⟩ := mem_g0 hx
        have := gW j
        have := g0_nn hcn j
        omega
      have CW := named_dec h1 h3 NO (subC (sumRun k bs e'.2) b).sum.toNat _ (by omega) wl wn (zeroB_sub (k := k) hvb zV (z1 b hb))
      rw [← hbs] at CW
      obtain ⟨run2, w1, w2⟩ := CW
      have a2 := c4 run2 ⟨w1, fun j => by rw [← w2 j]; exact gW j⟩
      have eW : sumRun k bs run2 = subC (sumRun k bs e'.2) b := ext_g0 (by rw [sumRun_len hbl w1, wl]) fun j _ => by rw [sumRun_col hbl w1, w2 j]
      have a3 : costRun bs costs run2 = dot (sumRun k bs e'.2) costs - dot b costs := by rw [← sumRun_cost hbl w1, eW, dot_sub hvb]
      rw [sumRun_cost hbl d1.1] at a3
      show I (e.1 - dot c costs) = I (e'.1 - dot (addC c b) costs)
      rw [dot_add hl]
      have : e.1 - dot c costs = e'.1 - (dot c costs + dot b costs) := by omega
      rw [this]
end DL

set_option Elab.async false
set_option linter.all false
set_option maxRecDepth 100000
set_option maxHeartbeats 1000000
set_option pp.maxSteps 300
/-! WK21: x not in (0, None); law -/
namespace DL
open PySem PySem.Spec PyProof.Rows L2
/-- x not in (0, None), x being the one or the other -/
theorem rr_notInZ {z : En} {K : PySem.W.Frag} {O : OHp} {Φ : Dat → OHp → Prop} {d1 : Dat} (h1 : d1 = N ∨ d1 = I 0) (h : Φ (B false) O) : RR z K (rIn K true) d1 (.tup [I 0, N]) O Φ := fun H H0 v1 v2 Q st r1 r2 k => by
  obtain ⟨a, vs, e1, hq, rr⟩ := tup_at st.s r2
  obtain ⟨x, y, rfl, rx, ry⟩ := rps2 rr
  have rx : x = .int 0 := rx
  have ry : y = .non := ry
  subst rx ry e1
  rcases h1 with h1 | h1
  · subst h1
    have r1 : v1 = .non := r1
    subst r1
    exact ⟨a, _, rfl, .inr (.of hq), rfl, rfl, k _ (B false) _ _ _ st.s.refl rfl h⟩
  · subst h1
    have r1 : v1 = .int 0 := r1
    subst r1
    exact ⟨a, _, rfl, .inr (.of hq), rfl, rfl, k _ (B false) _ _ _ st.s.refl rfl h⟩
end DL

set_option Elab.async false
set_option linter.all false
set_option maxRecDepth 100000
set_option maxHeartbeats 1000000
set_option pp.maxSteps 300
/-! WK22: law -/
namespace DL
open PySem PySem.Spec PyProof.Rows L2
theorem Good.b8 {k : Nat} {bs : List (List Int)} (h : Good k bs) (hl : bs.length ≤ 8) : Book8 k bs where
  b := fun b hb => by obtain ⟨a1, a2, a3, a4⟩ := h.b b hb; exact ⟨a1, a2, by omega⟩
  k1 := h.k1
  k3 := h.k3
  n := by omega
  hi := fun b hb x hx => by
    obtain ⟨a1, a2, a3, a4⟩ := h.b b hb
    obtain ⟨j, _, e⟩ := mem_g0 hx
    have := g0_le_sum a2 j
    omega
  s8 := fun b hb => (h.b b hb).2.2.2
/-- a batch more leaves the coming cost -/
def Wind (k : Nat) (bs : List (List Int)) : Prop := ∀ (c b costs : List Int), c.length = k → (∀ x ∈ c, 0 ≤ x) → b ∈ bs → ∀ r r', CovOK bs costs c r → CovOK bs costs (addC c b) r' → comD costs c r = comD costs (addC c b) r'
theorem wind_named {k : Nat} {cls : List Int} {rows : List (List Int)} (h1 : 1 ≤ k) (h3 : k ≤ 3) (NO : NamesOk k cls rows) : Wind k ((namedR cls rows k).mergeSort leC) :=
  fun c b costs hc hcn hb r r' h h' => named_add h1 h3 NO rfl ⟨fun b hb => by obtain ⟨a1, a2, a3, a4⟩ := (good_named (cls := cls) (rows := rows) h1 h3).b b hb; exact ⟨a1, a2, by omega⟩⟩ hc hcn hb h h'
theorem add_sub {c b : List Int} (hl : c.length = b.length) : addC (subC c b) b = c :=
  ext_g0 (by simp [addC, subC]; omega) fun j _ => by rw [add_g0 (by simp [subC]; omega), sub_g0 hl]; omega
/-- an added batch costs nothing more, or nothing can come -/
theorem wind_sub {k : Nat} {bs : List (List Int)} (W : Wind k bs) {c b costs : List Int} (hc : c.length = k) (hb : b.length = k) (hm : b ∈ bs) (hle : leCr b c = true) {r r' : Option (Int × List Nat)} (h : CovOK bs costs c r) (h' : CovOK bs costs (subC c b) r') : addD costs c b r r' = N ∨ addD costs c b r r' = I 0 := by
  have hl : c.length = b.length := by rw [hc, hb]
  have le := (leCr_iff hl.symm).mp hle
  have e := W (subC c b) b costs (by simp [subC]; omega) (fun x hx => by
    obtain ⟨j, _, e⟩ := mem_g0 hx
    rw [sub_g0 hl] at e
    have := le j
    omega) hm r' r h' (by rw [add_sub hl]; exact h)
  rw [add_sub hl] at e
  cases r with
  | none => exact .inl rfl
  | some x => cases r' with
    | none => exact .inl rfl
    | some y =>
      have e : y.1 - dot (subC c b) costs = x.1 - dot c costs := by
        injection e with e
        injection e with e
      refine .inr ?_
      show I ((y.1 - dot (subC c b) costs) - (x.1 - dot c costs)) = I 0
      rw [e, Int.sub_self]
end DL

set_option Elab.async false
set_option linter.all false
set_option maxRecDepth 100000
set_option maxHeartbeats 1000000
set_option pp.maxSteps 300
/-! WK23: law -/
namespace DL
open PySem PySem.Spec PyProof.Rows L2
abbrev sLaw : Stmt := topS 56
theorem scLaw : FnScope ["_law_script", "_law_deal", "_law_turn", "_law_kinds", "_law_batches", "_law_clocks", "_law_names", "_law_book_here", "_law_crowd_here", "_law_costs_here", "_law_due", "_law_at", "_law_batch", "_law_other", "_law_second"] ["_law_script"] (defScope sLaw) := C8.fnScope_by (by decide +kernel)
def spLaw : DSp := fun ds O Φ _ => ∃ ns, ds = [.scr ns] ∧ ns.length ≤ 63 ∧ ∀ O', Φ (B true) O'
/-- what is told, in one shape -/
def ToldOk (k : Nat) (bs : List (List Int)) (dc : Dat) : Prop := Good k bs ∧ bs.length ≤ 8 ∧ notAny dc = true ∧ ((!isNon dc) = true → Wind k bs ∧ ∀ b ∈ bs, b.sum ≤ 6)
def spTold2 : DSp := fun ds O Φ _ => ∃ D, ds = [R D] ∧ DealOk O D ∧ ∀ (k : Nat) bs dc dn O', ToldOk k bs dc → Draws O O' D → Φ (.tup [I (k : Int), lT bs, dc, dn]) O'
theorem told_imp : ∀ ds O Φ Ψ, spTold2 ds O Φ Ψ → spTold ds O Φ Ψ := fun ds O Φ Ψ ⟨D, e, hD, φ⟩ => ⟨D, e, hD, fun k cls rows O' h1 h3 NO hl dr => φ k _ _ _ O' ⟨good_named h1 h3, hl, rfl, fun _ => ⟨wind_named h1 h3 NO, fun b hb => by
    obtain ⟨a1, a2, a3, a4⟩ := (allC_mem h1).mp (namedR_mem ((List.mergeSort_perm _ _).mem_iff.mp hb)).1
    exact a4⟩⟩ dr, fun k bs O' G hl dr => φ k _ _ _ O' ⟨G, hl, rfl, fun z => nomatch z⟩ dr⟩
abbrev lawFor : List Stmt := match (defBody sLaw).getD 1 (.Pass ⟨0, 0, 0, 0⟩) with
  | .For _ _ b _ _ => b
  | _ => []
section
variable {P : Program} {w : World} {K : PySem.W.Frag} {mg : Str → Option Value} {base : Heap} {T : List (Addr × Str)} {cB cC cR cQ cF C : Addr}
theorem okLaw (t : Tx K mg) {fB : Addr} {fdB : FuncData} (mk : Mk K C fB) (FB : FnOk P w K mg base (L2.CX P w) 4 fB fdB ["self", "kinds", "batches"] (lift T K (spBookInit C))) (hmB : mg "Book" = some (.ref C)) (hbB : Binds K fdB ["self", "kinds", "batches"] [])
    (iDraw : Cal P w K mg base T CX0 "_law_draw" 1 ["_law_script", "_law_salt"] spDraw) (iTold : Cal P w K mg base T CX0 "_law_told" 7 ["_law_deal"] spTold) (iCrowd : Cal P w K mg base T CX0 "_law_crowd" 2 ["_law_deal", "_law_kinds", "_law_most"] spCrowd) (iCosts : Cal P w K mg base T CX0 "_law_costs" 2 ["_law_deal", "_law_kinds"] spCosts)
    (iComing : Cal P w K mg base T CX0 "_law_coming" 2 ["_law_batches", "_law_crowd_here", "_law_costs_here"] spLComing) (iRight : Cal P w K mg base T (L2.CX P w) "_law_right" 45 ["_law_book_here", "_law_batches", "_law_crowd_here", "_law_costs_here", "_law_due"] (spRight C))
    (iAdded : Cal P w K mg base T (L2.CX P w) "_law_added" 48 ["_law_book_here", "_law_batches", "_law_crowd_here", "_law_costs_here", "_law_before"] (spLAdded C)) (iWith : Cal P w K mg base T CX0 "_law_within" 1 ["_law_one", "_law_other"] spWith)
    (iA : Cal P w K mg base T (L2.CX P w) "added_cost" 45 ["book", "crowd", "batch", "costs"] (spAdded cC cR cQ C)) (iC : Cal P w K mg base T (L2.CX P w) "coming_cost" 44 ["book", "crowd", "costs"] (spComing cC cQ C)) (iMore : Cal P w K mg base T CX0 "_law_more" 1 ["_law_one", "_law_other"] spMore)
    (iOf : Cal P w K mg base T CX0 "_law_of" 2 ["_law_deal", "_law_some"] spOf) (iRef : Cal P w K mg base T (L2.CX P w) "_law_refused" 48 ["_law_deal", "_law_kinds", "_law_batches", "_law_book_here"] (spRefused C))
    {f : Addr} {fd : FuncData} (F : Fun K "law" "law" sLaw f fd) : FnOk P w K mg base (L2.CX P w) 49 f fd ["_law_script"] (lift T K spLaw) := by
  refine fnOkX F scLaw (fun ds O Φ Ψ ⟨_, h, _⟩ => by rw [h]; rfl) fun cdv A outer s H E H0 O ds Φ Ψ hr ⟨ns, e, hns, φ⟩ lk => ?_
  subst e
  have hu : (A.deeper (envOfC "law" (defScope sLaw) s.heap.objs.size f cdv)).units + 64 < cLine := hr.units
  have px : Passes (L2.CX P w) (cxOf (L2.CX P w) P w K mg base ["_law_script", "_law_deal", "_law_turn", "_law_kinds", "_law_batches", "_law_clocks", "_law_names", "_law_book_here", "_law_crowd_here", "_law_costs_here", "_law_due", "_law_at", "_law_batch", "_law_other", "_law_second"] "law" (defScope sLaw) f cdv A outer s H E) E := passes_call (takes_of rfl rfl rfl rfl) (fun _ _ _ _ h => h)
  have px0 : Passes (L2.CX P w) (cxOf (L2.CX P w) P w K mg base ["_law_script", "_law_deal", "_law_turn", "_law_kinds", "_law_batches", "_law_clocks", "_law_names", "_law_book_here", "_law_crowd_here", "_law_costs_here", "_law_due", "_law_at", "_law_batch", "_law_other", "_law_second"] "law" (defScope sLaw) f cdv A outer s H E) E0 := passes_call (takes_of rfl rfl rfl rfl) (fun _ _ _ _ h => h.elim)
  refine wss_cons (ws_set 1 (wd_call iDraw (hr.mono (by decide)) (wa_two (wd_nm 0 rfl (wd_int ⟨ns, rfl, hns, fun D O1 hD => ?_⟩)))) scLaw.nd)
  refine wss_cons (ws_for (passes_of rfl) (pg_name (i := 2) scLaw.nd rfl (by first | exact .inl rfl | exact .inr rfl) (by first | exact .inl rfl | exact .inr rfl)) (wi_range1 t.range (wd_int ⟨2, rfl, by decide, by decide, fun i Γ' O' => (∃ y2 y3 y4 y5 y6 y7 y8 y9 y10 y11 y12 y13 y14, Γ' = [some (.scr ns), some (R D), y2, y3, y4, y5, y6, y7, y8, y9, y10, y11, y12, y13, y14]) ∧ DealOk O' D, ⟨⟨_, _, _, _, _, _, _, _, _, _, _, _, _, rfl⟩, hD⟩, fun _ _ _ _ => trivial, ?_, ?_⟩)))
  · rintro i d2 Γ' O' hi ⟨⟨y2, y3, y4, y5, y6, y7, y8, y9, y10, y11, y12, y13, y14, rfl⟩, hD'⟩ hy
    refine rg_name (wss_cons (ws_asg _ (pg4 3 4 5 6 scLaw.nd) (wd_call (iTold.imp told_imp) (hr.mono (by decide)) (wa_1 (wd_nm 1 rfl ⟨D, rfl, hD', fun k bs dc dn O2 ⟨G, hl8, hna, W⟩ dr2 => rg4 ?_⟩)))))
    have hk1 := G.k1
    have hk3 := G.k3
    have BO := G.b8 hl8
    have h2 := dr2.ok
    refine wss_cons (ws_par3 7 8 9 (wa_cons (wd_make mk FB (hr.mono (by decide)) hmB hbB px0 (wa_two (wd_nm 3 rfl (wd_nm 4 rfl fun p dx hp => ⟨p, dx, k, bs, rfl, put_same, BO.toBookOk, G.nd, G.srt.eq, rfl, _, _, put_same, ?_⟩))))) scLaw.nd)
    rw [put_put, del_put hp]
    refine wa_two (wd_call iCrowd (hr.mono (by decide)) (wa_cons (wd_nm 1 rfl (wa_two (wd_nm 3 rfl (wd_int ⟨D, k, 5, rfl, hk1, hk3, by decide, h2, fun c O3 hcl hcn hcs dr3 => wd_call iCosts (hr.mono (by decide)) (wa_two (wd_nm 1 rfl (wd_nm 3 rfl ⟨D, k, rfl, hk1, hk3, dr3.ok, fun costs O4 CO dr4 => ⟨_, _, _, rfl, ?_⟩⟩)))⟩))))))
    have CR : Cr5 k c := ⟨hcl, hcn, by omega⟩
    have lc : c.length ≤ 1000 := by omega
    have lq : costs.length ≤ 1000 := by rw [CO.l]; omega
    have h4 := dr4.ok
    refine wss_cons (ws_set 10 (wd_call iComing (hr.mono (by decide)) (wa_cons (wd_nm 4 rfl (wa_two (wd_nm 8 rfl (wd_nm 9 rfl ⟨k, bs, c, costs, rfl, BO.toBookOk, hl8, CR.l, CR.p, CR.s, CO, fun r h => ?_⟩)))))) scLaw.nd)
    refine wss_cons (ws_if (wt_ww (ww_or (wt_not (wt_val (wd_callX iRight (hr.mono (by decide)) px lk (wa_cons (wd_nm 7 rfl (wa_cons (wd_nm 4 rfl (wa_cons (wd_nm 8 rfl (wa_two (wd_nm 9 rfl (wd_nm 10 rfl ⟨k, bs, c, costs, r, rfl, BO, CR, CO, h, _, rfl, fun z => (nomatch z), fun _ => ?_⟩)))))))))))))))
    refine ww_or1 (wt_not (wt_val (wd_callX iAdded (hr.mono (by decide)) px lk (wa_cons (wd_nm 7 rfl (wa_cons (wd_nm 4 rfl (wa_cons (wd_nm 8 rfl (wa_two (wd_nm 9 rfl (wd_nm 10 rfl ⟨k, bs, c, costs, r, rfl, BO, hl8, CR, CO, h, _, rfl, fun z => (nomatch z), fun _ => wss_nil ?_⟩))))))))))))
    -- the second half
    have rest : ∀ (E5 : EnD) O5 y11 y12, (∀ Γ' O', (∃ y2 y3 y4 y5 y6 y7 y8 y9 y10 y11 y12 y13 y14, Γ' = [some (.scr ns), some (R D), y2, y3, y4, y5, y6, y7, y8, y9, y10, y11, y12, y13, y14]) → DealOk O' D → E5.nx Γ' O') → DealOk O5 D → WSs ⟨T, H0, O, H⟩ (cxOf (L2.CX P w) P w K mg base ["_law_script", "_law_deal", "_law_turn", "_law_kinds", "_law_batches", "_law_clocks", "_law_names", "_law_book_here", "_law_crowd_here", "_law_costs_here", "_law_due", "_law_at", "_law_batch", "_law_other", "_law_second"] "law" (defScope sLaw) f cdv A outer s H E)
        (lawFor.drop 5) [some (.scr ns), some (R D), some d2, some (I (k : Int)), some (lT bs), some dc, some dn, some (bookD C k bs), some (tI c), some (tI costs), some (comD costs c r), y11, y12, y13, y14] O5 E5 := by
      intro E5 O5 y11 y12 hE h5
      refine wss_cons (ws_par 13 14 (wa_two (wd_call iCosts (hr.mono (by decide)) (wa_two (wd_nm 1 rfl (wd_nm 3 rfl ⟨D, k, rfl, hk1, hk3, h5, fun costs2 O6 CO2 dr6 => wd_call iCrowd (hr.mono (by decide)) (wa_cons (wd_nm 1 rfl (wa_two (wd_nm 3 rfl (wd_int ⟨D, k, 4, rfl, hk1, hk3, by decide, dr6.ok, fun c2 O7 hcl2 hcn2 hcs2 dr7 => ⟨_, _, rfl, ?_⟩⟩)))))⟩))))) scLaw.nd)
      have CR2 : Cr5 k c2 := ⟨hcl2, hcn2, by omega⟩
      refine wss_cons (ws_if (wt_not (wt_val (wd_callX iRight (hr.mono (by decide)) px lk (wa_cons (wd_nm 7 rfl (wa_cons (wd_nm 4 rfl (wa_cons (wd_nm 8 rfl (wa_two (wd_nm 13 rfl (wd_call iComing (hr.mono (by decide)) (wa_cons (wd_nm 4 rfl (wa_two (wd_nm 8 rfl (wd_nm 13 rfl ⟨k, bs, c, costs2, rfl, BO.toBookOk, hl8, CR.l, CR.p, CR.s, CO2, fun r2 hr2 => ⟨k, bs, c, costs2, r2, rfl, BO, CR, CO2, hr2, _, rfl, fun z => (nomatch z), fun _ => wss_nil ?_⟩⟩))))))))))))))))))
      refine wss_cons (ws_if (wt_not (wt_val (wd_callX iRight (hr.mono (by decide)) px lk (wa_cons (wd_nm 7 rfl (wa_cons (wd_nm 4 rfl (wa_cons (wd_nm 14 rfl (wa_two (wd_nm 13 rfl (wd_call iComing (hr.mono (by decide)) (wa_cons (wd_nm 4 rfl (wa_two (wd_nm 14 rfl (wd_nm 13 rfl ⟨k, bs, c2, costs2, rfl, BO.toBookOk, hl8, CR2.l, CR2.p, CR2.s, CO2, fun r3 hr3 => ⟨k, bs, c2, costs2, r3, rfl, BO, CR2, CO2, hr3, _, rfl, fun z => (nomatch z), fun _ => wss_nil ?_⟩⟩))))))))))))))))))
      exact wss_one (ws_if (wt_not (wt_val (wd_callX iRef (hr.mono (by decide)) px lk (wa_cons (wd_nm 1 rfl (wa_cons (wd_nm 3 rfl (wa_two (wd_nm 4 rfl (wd_nm 7 rfl ⟨D, k, bs, rfl, BO, dr7.ok, fun O8 dr8 => ⟨_, rfl, fun z => (nomatch z), fun _ => wss_nil (hE _ _ ⟨_, _, _, _, _, _, _, _, _, _, _, _, _, rfl⟩ dr8.ok)⟩⟩)))))))))))
    refine wss_cons (ws_if (wt_notN (wd_nm 5 rfl ⟨hna, fun z => ?_, fun _ => wss_nil (rest _ _ _ _ (fun _ _ a b => ⟨a, b⟩) h4)⟩)))
    obtain ⟨Wi, s6⟩ := W z
    refine wss_cons (ws_for (passes_of rfl) (pg2 11 12 scLaw.nd) (wi_enumL t.enumerate (wd_nm 4 rfl ⟨bs.map tI, .lst, fun i Γ' O' => (∃ y11 y12, Γ' = [some (.scr ns), some (R D), some d2, some (I (k : Int)), some (lT bs), some dc, some dn, some (bookD C k bs), some (tI c), some (tI costs), some (comD costs c r), y11, y12, y13, y14]) ∧ O' = O4, ⟨⟨_, _, rfl⟩, rfl⟩, fun _ _ _ _ => .lst, ?_, ?_⟩)))
    · rintro j d3 Γ' O' hj ⟨⟨y11, y12, rfl⟩, rfl⟩ ⟨x, hx, rfl⟩
      obtain ⟨b, hb, e⟩ := tIs_get hx
      subst e
      have hbm := List.mem_of_getElem? hb
      obtain ⟨b1, b2, b3⟩ := BO.b _ hbm
      have hjl : j < bs.length := (List.getElem?_eq_some_iff.mp hb).1
      have hbat : bat bs j = b := bat_get hb
      have hix : idxOf (I (j : Int)) bs.length = some j := by
        show (if 0 ≤ (j : Int) ∧ (j : Int) < (bs.length : Int) then some (j : Int).toNat else none) = some j
        rw [if_pos ⟨by omega, by omega⟩]; rfl
      refine rg2 (wss_one (ws_if (wt_ww (ww_and (wt_val (wd_call iWith (hr.mono (by decide)) (wa_two (wd_nm 12 rfl (wd_nm 8 rfl ⟨b, c, rfl, by rw [b1, CR.l], by omega, _, rfl, fun _ => ⟨fun z => (nomatch z), fun _ => wss_nil ⟨⟨_, _, rfl⟩, rfl⟩⟩, fun hle => ww_and1 ?_⟩)))))))))
      refine wt_cmp op_notIn_seq (wd_callX iA (hr.mono (by decide)) px lk (wa_cons (wd_nm 7 rfl (wa_cons (wd_nm 8 rfl (wa_two (wd_nm 11 rfl (wd_nm 9 rfl ⟨k, bs, tI c, I (j : Int), tI costs, rfl, BO.toBookOk, seqOk_tI lc, rfl, seqOk_tI lq, chk_num CR.ok ⟨c, rfl, CR.ok, ?_⟩⟩))))))))
      rw [hix]
      show (leCr (bat bs j) c = false → _) ∧ (leCr (bat bs j) c = true → _)
      rw [hbat]
      refine ⟨fun z2 => (by rw [hle] at z2; cases z2), fun _ => chk_ok rfl (pos_all fun x hx => (CO.r x hx).1) (by rw [List.length_map, CO.l]) ⟨costs, rfl, CO, fun r1 q1 h1 g1 => ?_⟩⟩
      exact wd_tup (wa_two (wd_int (wd_non ⟨by simp, rr_notInZ (wind_sub Wi CR.l b1 hbm hle h1 g1) ⟨_, rfl, fun z => (nomatch z), fun _ => wss_nil ⟨⟨_, _, rfl⟩, rfl⟩⟩⟩)))
    · rintro Γ' O' ⟨⟨y11, y12, rfl⟩, rfl⟩
      refine wss_one (ws_if (wt_ww (ww_and (wt_cmp (op_neD hu) (wd_nm 4 rfl (wd_lst (wa_nil ⟨by simp, .inl (rr_neD (seeP_lT bs) seeP_nil ⟨_, rfl, fun q => ⟨(fun z => nomatch z), fun _ => wss_nil (rest _ _ _ _ (fun _ _ a b => ⟨a, b⟩) h4)⟩, fun q => ?_⟩)⟩)))))))
      rw [eqv_nil, isE_map] at q
      have hne : bs.map tI ≠ [] := fun e => by
        cases bs with
        | nil => cases q
        | cons b bs' => cases e
      refine ww_and1 (wt_cmp op_ne (wd_repr t.repr (wd_callX iC (hr.mono (by decide)) px lk (wa_cons (wd_nm 7 rfl (wa_two (wd_call iMore (hr.mono (by decide)) (wa_two (wd_nm 8 rfl (wd_call iOf (hr.mono (by decide)) (wa_two (wd_nm 1 rfl (wd_nm 4 rfl ⟨D, bs.map tI, rfl, hne, by rw [List.length_map]; omega, h4, fun x O5 hx dr5 => ?_⟩)))))))))))))
      obtain ⟨b, hbm, rfl⟩ := List.mem_map.mp hx
      obtain ⟨b1, b2, b3⟩ := BO.b _ hbm
      have hl : c.length = b.length := by rw [CR.l, b1]
      have ll : (addC c b).length = k := by rw [addC_len CR.l b1]
      have b6 := s6 b hbm
      have CA : CrOk k (addC c b) := ⟨ll, fun x hx => by
        obtain ⟨j, _, e⟩ := mem_g0 hx
        rw [add_g0 hl] at e
        have a1 := g0_le_sum b2 j
        have a2 := g0_le_sum CR.p j
        have a3 := g0_nn b2 j
        have a4 := g0_nn CR.p j
        have := CR.s
        omega⟩
      refine ⟨c, b, rfl, hl, lc, wd_nm 9 rfl ⟨k, bs, tI (addC c b), tI costs, rfl, BO.toBookOk, seqOk_tI (by omega), seqOk_tI lq, asked_ok rfl rfl CA CO fun r1 h1 => ?_⟩⟩
      have ew := Wi c b costs CR.l CR.p hbm r r1 h h1
      rw [← ew]
      refine ⟨comD_rep BO CR CO h, wd_repr t.repr (wd_nm 10 rfl ⟨comD_rep BO CR CO h, rr_ne rfl ⟨_, rfl, fun z => ?_, fun _ => wss_nil (rest _ _ _ _ (fun _ _ a b => ⟨a, b⟩) dr5.ok)⟩⟩)⟩
      simp at z
  · rintro Γ' O' ⟨⟨y2, y3, y4, y5, y6, y7, y8, y9, y10, y11, y12, y13, y14, rfl⟩, hD'⟩
    exact wss_one (ws_ret (ret_val (wd_bl (φ _))))
end
end DL

set_option Elab.async false
set_option linter.all false
set_option maxRecDepth 100000
set_option maxHeartbeats 1000000
set_option pp.maxSteps 300
/-! AS1: the exceptions' __init__; keywords in reverse order; all defs together -/
namespace DL
open PySem PySem.Spec PyProof.Rows L2
abbrev sXI (i : Nat) : Stmt := match topS i with
  | .ClassDef (body := b) .. => b.getD 0 (.Pass ⟨0, 0, 0, 0⟩)
  | _ => .Pass ⟨0, 0, 0, 0⟩
abbrev prg : Program := PySem.Challenge.pw_noneleft_k22_whole_who_must_come
section
variable {P : Program} {w : World} {K : PySem.W.Frag} {mg : Str → Option Value} {base : Heap} {fI D cc cda : Addr} {fd : FuncData}
theorem fnX3 (T : SupIn P K fI D cc cda "InvalidCrowd.__init__" (defArgs (sXI 3)) (defScope (sXI 3)) (defBody (sXI 3)) fd) (TC : SupC K D) (hmg : mg "super" = none) (hat : PySem.W.findIn K (.ref D) "at" = some none) (TO : OexC K D) : FnOk P w K mg base CX0 1 fI fd ["self", "at"] (spSup D) :=
  fn_sup (j2 := 0) T _ (fun L => rfl) (fun L => rfl) (fun L => rfl) (fun L => rfl) TC hmg hat TO fun vs H Q E h => h
theorem fnX4 (T : SupIn P K fI D cc cda "InvalidRun.__init__" (defArgs (sXI 4)) (defScope (sXI 4)) (defBody (sXI 4)) fd) (TC : SupC K D) (hmg : mg "super" = none) (hat : PySem.W.findIn K (.ref D) "at" = some none) (TO : OexC K D) : FnOk P w K mg base CX0 1 fI fd ["self", "at"] (spSup D) :=
  fn_sup (j2 := 0) T _ (fun L => rfl) (fun L => rfl) (fun L => rfl) (fun L => rfl) TC hmg hat TO fun vs H Q E h => h
theorem fnX5 (T : SupIn P K fI D cc cda "InvalidQuestion.__init__" (defArgs (sXI 5)) (defScope (sXI 5)) (defBody (sXI 5)) fd) (TC : SupC K D) (hmg : mg "super" = none) (hat : PySem.W.findIn K (.ref D) "at" = some none) (TO : OexC K D) : FnOk P w K mg base CX0 1 fI fd ["self", "at"] (spSup D) :=
  fn_sup (j2 := 0) T _ (fun L => rfl) (fun L => rfl) (fun L => rfl) (fun L => rfl) TC hmg hat TO fun vs H Q E h => h
/-- f(k = v, ..) in the reverse order -/
theorem kbn_rev {ps : List Str} (h : ∀ ws : List Value, ws.length = ps.length → bindArgs fd ⟨[], ps.reverse.zip ws⟩ = pure (ps.zip ws.reverse)) : KBn K fd ps 0 ps.reverse (fun _ ws => ws.reverse) (fun _ zs => zs.reverse) where
  to := fun s us ws X h0 hw => by
    have e : us = [] := List.eq_nil_of_length_eq_zero h0
    subst e
    exact .of_eq (h ws (by rw [hw, List.length_reverse]))
  rel := fun _ r => r.reverse
/-- a def by what the top has written -/
theorem df_mk {h : Heap} {x : Str} {st : Stmt} {ps : List Str} {f : Addr} {oc : Value} {od an : Option Addr} {osl : Array (Option Value)} {kV doc pm cdv ct : Value} (X : K.In h) (G : h.Ns mainGlobals mg) (a : PySem.W.nsIn K mainGlobals x = some (some (.ref f)))
    (l : K.lookup f = some ⟨oc, od, .func (PySem.W.fnOf x x (defArgs st) (defBody st) (defScope st) .none kV doc pm an cdv ct), osl⟩) (c : PySem.W.codeIn K cdv x = true) (k : PySem.W.keepIn K (.ref f) = true)
    (b : ∀ (kV doc pm : Value) (an : Option Addr) (cdv ct : Value) (us : List Value), us.length = ps.length → bindArgs (PySem.W.fnOf x x (defArgs st) (defBody st) (defScope st) .none kV doc pm an cdv ct) ⟨us, []⟩ = pure (ps.zip us)) : Df K mg x st ps :=
  ⟨f, _, fun_mk l c k, PySem.W.mg_of X G a, (fun_mk l c k).binds b⟩
/-- a def that makes a lambda, but for its table -/
structure DfL0 (K : PySem.W.Frag) (mg : Str → Option Value) (x : Str) (st : Stmt) (ps : List Str) (c : Addr) : Prop where
  ex : ∃ (f : Addr) (oc : Value) (od : Option Addr) (kV doc pm : Value) (an : Option Addr) (ct : Value) (osl : Array (Option Value)), K.lookup f = some ⟨oc, od, .func (PySem.W.fnOf x x (defArgs st) (defBody st) (defScope st) .none kV doc pm an (.ref c) ct), osl⟩ ∧ PySem.W.codeIn K (.ref c) x = true ∧ PySem.W.keepIn K (.ref f) = true ∧
    mg x = some (.ref f) ∧ Binds K (PySem.W.fnOf x x (defArgs st) (defBody st) (defScope st) .none kV doc pm an (.ref c) ct) ps []
theorem dfL_mk {h : Heap} {x : Str} {st : Stmt} {ps : List Str} {f c0 : Addr} {oc : Value} {od an : Option Addr} {osl : Array (Option Value)} {kV doc pm ct : Value} (X : K.In h) (G : h.Ns mainGlobals mg) (a : PySem.W.nsIn K mainGlobals x = some (some (.ref f)))
    (l : K.lookup f = some ⟨oc, od, .func (PySem.W.fnOf x x (defArgs st) (defBody st) (defScope st) .none kV doc pm an (.ref c0) ct), osl⟩) (c : PySem.W.codeIn K (.ref c0) x = true) (k : PySem.W.keepIn K (.ref f) = true)
    (b : ∀ (kV doc pm : Value) (an : Option Addr) (cdv ct : Value) (us : List Value), us.length = ps.length → bindArgs (PySem.W.fnOf x x (defArgs st) (defBody st) (defScope st) .none kV doc pm an cdv ct) ⟨us, []⟩ = pure (ps.zip us)) : DfL0 K mg x st ps c0 :=
  ⟨f, oc, od, kV, doc, pm, an, ct, osl, l, c, k, PySem.W.mg_of X G a, (fun_mk l c k).binds b⟩
/-- an exception class by what the top has written, the three ties to its text apart -/
structure XcK (P : Program) (K : PySem.W.Frag) (mg : Str → Option Value) (x q : Str) (st : Stmt) (D : Addr) : Prop where
  m : mg x = some (.ref D)
  ex : ∃ fI fd cc cda, PySem.W.findIn K (.ref D) "__init__" = some (some (.ref fI)) ∧ PySem.W.typeIn K (.ref fI) = some (.type "function") ∧ SupIn P K fI D cc cda q (defArgs st) (defScope st) (defBody st) fd ∧ Binds K fd ["self", "at"] []
  sup : SupC K D
  at_ : PySem.W.findIn K (.ref D) "at" = some none
  o : OexC K D
theorem exc3 (hs : mg "super" = none) (x : XcK P K mg "InvalidCrowd" "InvalidCrowd.__init__" (sXI 3) D) : Exc1 P w K mg base "InvalidCrowd" D := by
  obtain ⟨fI, fd, cc, cda, h1, h2, h3, h4⟩ := x.ex
  exact ⟨x.o, ⟨fI, fd, h1, h2, fnX3 h3 x.sup hs x.at_ x.o, h4⟩, x.m⟩
theorem exc4 (hs : mg "super" = none) (x : XcK P K mg "InvalidRun" "InvalidRun.__init__" (sXI 4) D) : Exc1 P w K mg base "InvalidRun" D := by
  obtain ⟨fI, fd, cc, cda, h1, h2, h3, h4⟩ := x.ex
  exact ⟨x.o, ⟨fI, fd, h1, h2, fnX4 h3 x.sup hs x.at_ x.o, h4⟩, x.m⟩
theorem exc5 (hs : mg "super" = none) (x : XcK P K mg "InvalidQuestion" "InvalidQuestion.__init__" (sXI 5) D) : Exc1 P w K mg base "InvalidQuestion" D := by
  obtain ⟨fI, fd, cc, cda, h1, h2, h3, h4⟩ := x.ex
  exact ⟨x.o, ⟨fI, fd, h1, h2, fnX5 h3 x.sup hs x.at_ x.o, h4⟩, x.m⟩
end
/-- a def that is called by keywords too -/
structure DfR (K : PySem.W.Frag) (mg : Str → Option Value) (x : Str) (st : Stmt) (ps : List Str) : Prop where
  ex : ∃ f fd, Fun K x x st f fd ∧ mg x = some (.ref f) ∧ Binds K fd ps [] ∧ KBn K fd ps 0 ps.reverse (fun _ ws => ws.reverse) (fun _ zs => zs.reverse)
section
variable {P : Program} {w : World} {K : PySem.W.Frag} {mg : Str → Option Value} {base : Heap} {T : List (Addr × Str)} {cC cR cQ cF C : Addr}
theorem dfR_mk {h : Heap} {x : Str} {st : Stmt} {ps : List Str} {f : Addr} {oc : Value} {od an : Option Addr} {osl : Array (Option Value)} {kV doc pm cdv ct : Value} (X : K.In h) (G : h.Ns mainGlobals mg) (a : PySem.W.nsIn K mainGlobals x = some (some (.ref f)))
    (l : K.lookup f = some ⟨oc, od, .func (PySem.W.fnOf x x (defArgs st) (defBody st) (defScope st) .none kV doc pm an cdv ct), osl⟩) (c : PySem.W.codeIn K cdv x = true) (k : PySem.W.keepIn K (.ref f) = true)
    (b : ∀ (kV doc pm : Value) (an : Option Addr) (cdv ct : Value) (us : List Value), us.length = ps.length → bindArgs (PySem.W.fnOf x x (defArgs st) (defBody st) (defScope st) .none kV doc pm an cdv ct) ⟨us, []⟩ = pure (ps.zip us))
    (b2 : ∀ (kV doc pm : Value) (an : Option Addr) (cdv ct : Value) (ws : List Value), ws.length = ps.length → bindArgs (PySem.W.fnOf x x (defArgs st) (defBody st) (defScope st) .none kV doc pm an cdv ct) ⟨[], ps.reverse.zip ws⟩ = pure (ps.zip ws.reverse)) : DfR K mg x st ps :=
  ⟨f, _, fun_mk l c k, PySem.W.mg_of X G a, (fun_mk l c k).binds b, kbn_rev fun ws h => b2 _ _ _ _ _ _ ws h⟩
theorem calR_mk {x : Str} {st : Stmt} {ps : List Str} {k : Nat} {dsp : DSp} (d : DfR K mg x st ps) (F : ∀ f fd, Fun K x x st f fd → FnOk P w K mg base (L2.CX P w) k f fd ps (lift T K dsp)) : Cal P w K mg base T (L2.CX P w) x k ps dsp ∧ CalR P w K mg base T (L2.CX P w) x k ps dsp := by
  obtain ⟨f, fd, h1, h2, h3, h4⟩ := d.ex
  exact ⟨⟨f, fd, F f fd h1, h2, h1.kp, h3⟩, ⟨f, fd, F f fd h1, h2, h1.kp, h4⟩⟩
/-- all that the top has written -/
structure Tops (P : Program) (K : PySem.W.Frag) (mg : Str → Option Value) (C cC cR cQ cF : Addr) : Prop where
  t : Tx K mg
  su : mg "super" = none
  bk : Bk K C
  mB : mg "Book" = some (.ref C)
  bI : ∃ f fd, Mk K C f ∧ Fun K "__init__" "Book.__init__" sBookInit f fd ∧ Binds K fd ["self", "kinds", "batches"] []
  x3 : XcK P K mg "InvalidCrowd" "InvalidCrowd.__init__" (sXI 3) cC
  x4 : XcK P K mg "InvalidRun" "InvalidRun.__init__" (sXI 4) cR
  x5 : XcK P K mg "InvalidQuestion" "InvalidQuestion.__init__" (sXI 5) cQ
  rf : RfK K mg cC cR cQ cF
  d8 : Df K mg "is_integer" sIsInt ["value"]
  d9 : Df K mg "is_number" sIsNum ["value"]
  d10 : Df K mg "is_index" sIsIdx ["value", "many"]
  d11 : Df K mg "is_sequence" sIsSeq ["value"]
  d12 : Df K mg "within" sWithin ["one", "other"]
  d13 : Df K mg "less" sLess ["one", "other"]
  d14 : Df K mg "more" sMore ["one", "other"]
  d15 : Df K mg "nobody" sNobody ["kinds"]
  d17 : Df K mg "is_batch" sIsBatch ["kinds", "value"]
  d19 : Df K mg "checked_crowd" sChkCrowd ["book", "value"]
  d21 : Df K mg "checked_run" sChkRun ["book", "run"]
  d22 : Df K mg "crowd_of" sCrowdOf ["book", "run"]
  d24 : Df K mg "checked_costs" sChkCosts ["book", "costs"]
  d25 : Df K mg "cost_of" sCostOf ["crowd", "costs"]
  d26 : Df K mg "lacking" sLacking ["crowd", "batch"]
  d27 : Df K mg "covering" sCovering ["book", "crowd", "costs", "known"]
  d28 : DfR K mg "least_coming" sLeast ["book", "crowd", "costs"]
  d29 : DfR K mg "coming_cost" sComing ["book", "crowd", "costs"]
  d30 : DfR K mg "added_cost" sAdded ["book", "crowd", "batch", "costs"]
  d32 : Df K mg "_law_draw" sDraw ["_law_script", "_law_salt"]
  d33 : Df K mg "_law_any" sAny ["_law_deal", "_law_bound"]
  d34 : Df K mg "_law_of" sOf ["_law_deal", "_law_some"]
  d35 : Df K mg "_law_within" sLWithin ["_law_one", "_law_other"]
  d36 : Df K mg "_law_less" sLLess ["_law_one", "_law_other"]
  d37 : Df K mg "_law_more" sLMore ["_law_one", "_law_other"]
  d38 : Df K mg "_law_crowds" sCrowds ["_law_kinds", "_law_size"]
  d39 : Df K mg "_law_zero" sZero ["_law_clocks", "_law_names", "_law_crowd_here"]
  d40 : Df K mg "_law_named" sNamed ["_law_deal", "_law_kinds"]
  d41 : Df K mg "_law_book" sBook ["_law_deal", "_law_most"]
  d42 : Df K mg "_law_told" sTold ["_law_deal"]
  d43 : Df K mg "_law_crowd" sCrowd ["_law_deal", "_law_kinds", "_law_most"]
  d44 : Df K mg "_law_costs" sCosts ["_law_deal", "_law_kinds"]
  d45 : Df K mg "_law_cost" sLCost ["_law_crowd_here", "_law_costs_here"]
  d46 : Df K mg "_law_is_crowd" sIsCrowd ["_law_kinds", "_law_value"]
  d47 : Df K mg "_law_bad" sBad ["_law_deal", "_law_kinds", "_law_least"]
  d48 : Df K mg "_law_refusal" sRefusal ["_law_work"]
  d49 : Df K mg "_law_lacking" sLLack ["_law_crowd_here", "_law_batch"]
  d50 : Df K mg "_law_coming" sLComing ["_law_batches", "_law_crowd_here", "_law_costs_here"]
  d51 : Df K mg "_law_clear" sLClear ["_law_batches", "_law_crowd_here"]
  d52 : Df K mg "_law_comes" sComes ["_law_batches", "_law_crowd_here", "_law_costs_here", "_law_value", "_law_due"]
  d53 : Df K mg "_law_right" sRight ["_law_book_here", "_law_batches", "_law_crowd_here", "_law_costs_here", "_law_due"]
theorem all_ok (W : Tops P K mg C cC cR cQ cF) {cdA PtA cdR PtR : Addr} (LTA : LamT T PtA "_law_added") (LTR : LamT T PtR "_law_refused")
    (dA : DfL0 K mg "_law_added" sLAdded ["_law_book_here", "_law_batches", "_law_crowd_here", "_law_costs_here", "_law_before"] cdA) (tA : LamX.TabB base mg cdA PtA)
    (dR : DfL0 K mg "_law_refused" sRefused ["_law_deal", "_law_kinds", "_law_batches", "_law_book_here"] cdR) (tR : LamX.TabB base mg cdR PtR)
    {f : Addr} {fd : FuncData} (F : Fun K "law" "law" sLaw f fd) : FnOk P w K mg base (L2.CX P w) 49 f fd ["_law_script"] (lift T K spLaw) := by
  have t := W.t
  have bk := W.bk
  have xc : Exc1 P w K mg base "InvalidCrowd" cC := exc3 W.su W.x3
  have xr : Exc1 P w K mg base "InvalidRun" cR := exc4 W.su W.x4
  have xq : Exc1 P w K mg base "InvalidQuestion" cQ := exc5 W.su W.x5
  have i9 : Cal P w K mg base T CX0 "is_number" 2 ["value"] spIsNum := cIsNum t W.d8 W.d9
  have i10 : Cal P w K mg base T CX0 "is_index" 3 ["value", "many"] spIsIdx := cIsIdx t W.d8 W.d9 W.d10
  have i11 : Cal P w K mg base T CX0 "is_sequence" 1 ["value"] spIsSeq := cIsSeq t W.d11
  have i12 : Cal P w K mg base T CX0 "within" 1 ["one", "other"] spWith := cWith t W.d12
  have i13 : Cal P w K mg base T CX0 "less" 1 ["one", "other"] spLess := cLess t W.d13
  have i14 : Cal P w K mg base T CX0 "more" 1 ["one", "other"] spMore := cMore t W.d14
  have i15 : Cal P w K mg base T CX0 "nobody" 1 ["kinds"] spNobody := cNobody W.d15
  have i17 : Cal P w K mg base T CX0 "is_batch" 3 ["kinds", "value"] spIsBatch := cIsBatch t W.d8 W.d9 W.d17
  have i19 : Cal P w K mg base T (L2.CX P w) "checked_crowd" 3 ["book", "value"] (spChk isNumD cC C) := cChkCrowd t xc bk i9 i11 W.d19
  have i21 : Cal P w K mg base T CX0 "checked_run" 4 ["book", "run"] (spChkRun C) := cChkRun t bk i10 i11 W.d21
  have i22 : Cal P w K mg base T CX0 "crowd_of" 5 ["book", "run"] (spCrowdOf C) := cCrowdOf t bk i15 i14 i21 W.d22
  have i24 : Cal P w K mg base T (L2.CX P w) "checked_costs" 3 ["book", "costs"] (spChk isPosD cQ C) := cChkCosts t xq bk i9 i11 W.d24
  have i25 : Cal P w K mg base T CX0 "cost_of" 1 ["crowd", "costs"] spCost := cCostOf t W.d25
  have i26 : Cal P w K mg base T CX0 "lacking" 1 ["crowd", "batch"] spLack := cLacking t W.d26
  have i27 : Cal P w K mg base T CX0 "covering" 42 ["book", "crowd", "costs", "known"] (spCovering C 40) := cCovering t bk i26 i25 W.d27 40
  obtain ⟨i28, j28⟩ := calR_mk (P := P) (w := w) (base := base) (T := T) (k := 43) (dsp := spLeast cC cQ C) W.d28 fun f fd F => okLeast t bk i19 i24 i27 i13 i22 F
  obtain ⟨i29, j29⟩ := calR_mk (P := P) (w := w) (base := base) (T := T) (k := 44) (dsp := spComing cC cQ C) W.d29 fun f fd F => okComing t i28 i25 F
  obtain ⟨i30, j30⟩ := calR_mk (P := P) (w := w) (base := base) (T := T) (k := 45) (dsp := spAdded cC cR cQ C) W.d30 fun f fd F => okAdded t bk xr i19 i10 i12 i29 i13 F
  have i32 : Cal P w K mg base T CX0 "_law_draw" 1 ["_law_script", "_law_salt"] spDraw := cDraw t W.d32
  have i33 : Cal P w K mg base T CX0 "_law_any" 1 ["_law_deal", "_law_bound"] spAny := cAny t W.d33
  have i34 : Cal P w K mg base T CX0 "_law_of" 2 ["_law_deal", "_law_some"] spOf := cOf t i33 W.d34
  have i35 : Cal P w K mg base T CX0 "_law_within" 1 ["_law_one", "_law_other"] spWith := cLWithin t W.d35
  have i36 : Cal P w K mg base T CX0 "_law_less" 1 ["_law_one", "_law_other"] spLess := cLLess t W.d36
  have i37 : Cal P w K mg base T CX0 "_law_more" 1 ["_law_one", "_law_other"] spMore := cLMore t W.d37
  have i38 : Cal P w K mg base T CX0 "_law_crowds" 4 ["_law_kinds", "_law_size"] (spCrowds 3) := cCrowds t W.d38 3
  have i39 : Cal P w K mg base T CX0 "_law_zero" 1 ["_law_clocks", "_law_names", "_law_crowd_here"] spZero := cZero t W.d39
  have i40 : Cal P w K mg base T CX0 "_law_named" 5 ["_law_deal", "_law_kinds"] spNamed := cNamed t i33 i34 i38 i39 i35 W.d40
  have i41 : Cal P w K mg base T CX0 "_law_book" 6 ["_law_deal", "_law_most"] spBook := cBook t i33 i34 i38 i40 i37 W.d41
  have i42 : Cal P w K mg base T CX0 "_law_told" 7 ["_law_deal"] spTold := cTold t i33 i40 i41 W.d42
  have i43 : Cal P w K mg base T CX0 "_law_crowd" 2 ["_law_deal", "_law_kinds", "_law_most"] spCrowd := cCrowd t i33 W.d43
  have i44 : Cal P w K mg base T CX0 "_law_costs" 2 ["_law_deal", "_law_kinds"] spCosts := cCosts t i33 W.d44
  have i45 : Cal P w K mg base T CX0 "_law_cost" 1 ["_law_crowd_here", "_law_costs_here"] spLCost := cLCost t W.d45
  have i46 : Cal P w K mg base T CX0 "_law_is_crowd" 1 ["_law_kinds", "_law_value"] spIsCrowd := cIsCrowd t W.d46
  have i47 : Cal P w K mg base T CX0 "_law_bad" 3 ["_law_deal", "_law_kinds", "_law_least"] spBad := cBad t i33 i34 W.d47
  have i49 : Cal P w K mg base T CX0 "_law_lacking" 1 ["_law_crowd_here", "_law_batch"] spLack := cLLack t W.d49
  have i50 : Cal P w K mg base T CX0 "_law_coming" 2 ["_law_batches", "_law_crowd_here", "_law_costs_here"] spLComing := cLComing t i49 i45 W.d50
  have i51 : Cal P w K mg base T CX0 "_law_clear" 2 ["_law_batches", "_law_crowd_here"] spLClear := cLClear t i35 i36 W.d51
  have i52 : Cal P w K mg base T CX0 "_law_comes" 3 ["_law_batches", "_law_crowd_here", "_law_costs_here", "_law_value", "_law_due"] spComes := cComes t i46 i45 i37 i51 W.d52
  have i53 : Cal P w K mg base T (L2.CX P w) "_law_right" 45 ["_law_book_here", "_law_batches", "_law_crowd_here", "_law_costs_here", "_law_due"] (spRight C) := cRight t i29 j29 i28 j28 i52 W.d53
  have i54 : Cal P w K mg base T (L2.CX P w) "_law_added" 48 ["_law_book_here", "_law_batches", "_law_crowd_here", "_law_costs_here", "_law_before"] (spLAdded C) := cLAdded t i35 i30 j30 i50 i36 W.d48 W.rf LTA ⟨dA.ex, tA⟩
  have i55 : Cal P w K mg base T (L2.CX P w) "_law_refused" 48 ["_law_deal", "_law_kinds", "_law_batches", "_law_book_here"] (spRefused C) := cRefused t i33 i34 i43 i44 i47 i29 i28 i30 W.d48 W.rf LTR ⟨dR.ex, tR⟩
  obtain ⟨fB, fdB, mk, FB, hbB⟩ := W.bI
  exact okLaw t mk (cBookInit t bk i9 i11 i17 FB) W.mB hbB i32 i42 i43 i44 i50 i53 i54 i35 i30 i29 i37 i34 i55 F
end
/-! ### the start -/
theorem law_start {T : List (Addr × Str)} {K : PySem.W.Frag} {H : Hp} {a : Addr} {ns : List Int} (ht : ∀ p ∈ T, H p.1 = some (.tbl #[])) (hl : ns.length ≤ 63) (hs : SqL K H a (ns.map V.int)) : lift T K spLaw [.ref a] H (fun v _ => v = .bl true) fun _ _ _ => False := by
  have e : ∀ b o, H b = some o → (∀ ps, o ≠ .tbl ps) → (match H b with | some (.tbl _) => none | o => o) = some o := fun b o h n => by
    rw [h]
    cases o with
    | tbl ps => exact absurd rfl (n ps)
    | _ => rfl
  have e2 : ∀ b o, (match H b with | some (.tbl _) => none | o => o) = some o → H b = some o ∧ ∀ ps, o ≠ .tbl ps := fun b o h => by
    cases q : H b with
    | none => rw [q] at h; cases h
    | some o' =>
      rw [q] at h
      cases o' with
      | tbl ps => cases h
      | _ =>
        have h := Option.some.inj h
        subst h
        exact ⟨rfl, fun ps z => by cases z⟩
  refine ⟨fun b => match H b with | some (.tbl _) => none | o => o, fun _ => none, [.scr ns], fun d _ => d = B true, fun _ _ _ => False, ⟨fun b o h => (e2 b o h).1, fun b od h => (by cases h), fun p hp => LamX.TabS.nil (ht p hp), fun b ps h => (e2 b _ h).2 ps rfl⟩, ⟨.ref a, [], rfl, ⟨a, rfl, ?_⟩, rfl⟩, ⟨ns, rfl, hl, fun O' => rfl⟩, fun v d H0' O' H' _ r e => (by subst e; exact r), fun _ _ _ _ _ _ _ _ _ _ q => q⟩
  rcases hs with (h | ⟨o, h⟩) | h
  · exact .inl (.inl (e _ _ h fun ps z => by cases z))
  · exact .inl (.inr ⟨o, e _ _ h fun ps z => by cases z⟩)
  · exact .inr h
end DL

set_option Elab.async false
set_option linter.all false
set_option maxRecDepth 100000
set_option maxHeartbeats 1000000
set_option pp.maxSteps 300
/-! AS2: what the end asks of the top -/
namespace DL
open PySem PySem.Spec PyProof.Rows L2
theorem look_mem {α β : Type} [BEq α] [LawfulBEq α] {x : α} {v : β} : ∀ {l : List (α × β)}, l.lookup x = some v → (x, v) ∈ l
  | [], h => by cases h
  | (y, u) :: r, h => by
    rw [List.lookup_cons] at h
    split at h
    · rename_i q
      have q := eq_of_beq q
      cases h
      rw [q]
      exact List.mem_cons_self
    · exact List.mem_cons_of_mem _ (look_mem h)
/-- the scope of such an __init__ -/
structure ScX (scope : Scope) (params : Arguments) : Prop where
  sc : scope.kind = .function ∧ scope.isCoroutine = false ∧ scope.isGenerator = false ∧ (∀ x ∈ scope.names, x.2 ≠ .cell) ∧ scope.names.lookup ("self" : Str) = some .local ∧ scope.names.lookup ("at" : Str) = some .local ∧ scope.names.lookup ("super" : Str) = some .globalImplicit ∧ scope.names.lookup ("__class__" : Str) = some .free ∧
    (∀ x, scope.names.lookup x = some .free → x = "__class__") ∧ (∀ x, scope.names.lookup x ≠ some .cell)
  ar : ∃ ar : Arg, (params.posonlyargs ++ params.args).head? = some ar ∧ ar.arg = "self"
theorem scX_by {scope : Scope} {params : Arguments} (h1 : scope.kind = .function) (h2 : scope.isCoroutine = false) (h3 : scope.isGenerator = false) (h4 : (scope.names.all fun y => y.2 != .cell && (y.2 != .free || y.1 == ("__class__" : Str))) = true)
    (h5 : scope.names.lookup ("self" : Str) = some .local) (h6 : scope.names.lookup ("at" : Str) = some .local) (h7 : scope.names.lookup ("super" : Str) = some .globalImplicit) (h8 : scope.names.lookup ("__class__" : Str) = some .free) (h9 : ∃ ar : Arg, (params.posonlyargs ++ params.args).head? = some ar ∧ ar.arg = "self") : ScX scope params := by
  have hc : ∀ y ∈ scope.names, y.2 ≠ .cell ∧ (y.2 = .free → y.1 = "__class__") := fun y hy => by
    have q := List.all_eq_true.mp h4 y hy
    obtain ⟨q1, q2⟩ := Bool.and_eq_true_iff.mp q
    refine ⟨by simpa using q1, fun z => ?_⟩
    rw [z] at q2
    simpa using q2
  exact ⟨⟨h1, h2, h3, fun y hy => (hc y hy).1, h5, h6, h7, h8, fun x hx => (hc _ (look_mem hx)).2 rfl, fun x hx => (hc _ (look_mem hx)).1 rfl⟩, h9⟩
theorem scX3 : ScX (defScope (sXI 3)) (defArgs (sXI 3)) := scX_by rfl rfl rfl (by decide +kernel) (by decide +kernel) (by decide +kernel) (by decide +kernel) (by decide +kernel) ⟨_, rfl, rfl⟩
theorem scX4 : ScX (defScope (sXI 4)) (defArgs (sXI 4)) := scX_by rfl rfl rfl (by decide +kernel) (by decide +kernel) (by decide +kernel) (by decide +kernel) (by decide +kernel) ⟨_, rfl, rfl⟩
theorem scX5 : ScX (defScope (sXI 5)) (defArgs (sXI 5)) := scX_by rfl rfl rfl (by decide +kernel) (by decide +kernel) (by decide +kernel) (by decide +kernel) (by decide +kernel) ⟨_, rfl, rfl⟩
theorem bX3 (kV doc pm : Value) (an : Option Addr) (cdv ct : Value) (cc : Addr) : ∀ us : List Value, us.length = 2 → bindArgs (PySem.W.ksFn "__init__" "InvalidCrowd.__init__" (defArgs (sXI 3)) (defBody (sXI 3)) (defScope (sXI 3)) .none kV doc pm an cdv ct cc) ⟨us, []⟩ = pure ((["self", "at"] : List Str).zip us)
  | [_, _], _ => rfl
theorem bX4 (kV doc pm : Value) (an : Option Addr) (cdv ct : Value) (cc : Addr) : ∀ us : List Value, us.length = 2 → bindArgs (PySem.W.ksFn "__init__" "InvalidRun.__init__" (defArgs (sXI 4)) (defBody (sXI 4)) (defScope (sXI 4)) .none kV doc pm an cdv ct cc) ⟨us, []⟩ = pure ((["self", "at"] : List Str).zip us)
  | [_, _], _ => rfl
theorem bX5 (kV doc pm : Value) (an : Option Addr) (cdv ct : Value) (cc : Addr) : ∀ us : List Value, us.length = 2 → bindArgs (PySem.W.ksFn "__init__" "InvalidQuestion.__init__" (defArgs (sXI 5)) (defBody (sXI 5)) (defScope (sXI 5)) .none kV doc pm an cdv ct cc) ⟨us, []⟩ = pure ((["self", "at"] : List Str).zip us)
  | [_, _], _ => rfl
theorem topX : (prg.main.scope.names.lookup ("super" : Str)).isSome = false := by decide +kernel
theorem xcK_mk {K : PySem.W.Frag} {mg : Str → Option Value} {h : Heap} {x q : Str} {st : Stmt} {D fI cc cda N : Addr} {oc kV doc pm ct c1 c2 : Value} {od an dd1 dd2 dd : Option Addr} {osl sl1 sl2 : Array (Option Value)} {vs : Array Value} {file : Str} {tf : Nat}
    {cd : ClassData} {nm qn : Str} {bs bm : List Value} {sn : List Str} {sub : List Value} {ab : Bool} {col : Option Bool} {k0 k1 k2 k3 k5 : Option Value} (X : K.In h) (G : h.Ns mainGlobals mg)
    (m : PySem.W.nsIn K mainGlobals x = some (some (.ref D))) (i : PySem.W.findIn K (.ref D) "__init__" = some (some (.ref fI))) (ti : PySem.W.typeIn K (.ref fI) = some (.type "function"))
    (l : K.lookup fI = some ⟨oc, od, .func (PySem.W.ksFn "__init__" q (defArgs st) (defBody st) (defScope st) .none kV doc pm an (.ref cda) ct cc), osl⟩) (c : PySem.W.codeIn K (.ref cda) q = true)
    (lc : K.lookup cda = some ⟨c1, dd1, .fields vs, sl1⟩) (lc2 : vs[2]? = some (.str file tf)) (lc3 : (prg.main.file == file) = true) (ll : K.lookup cc = some ⟨c2, dd2, .cell (some (.ref D)), sl2⟩) (cls : PySem.W.clsIn K D = some cd)
    (su : PySem.W.mroIn K D (.ref D) = some true) (opq : PySem.W.nsIn K PySem.cStatics "thirdparty.any" = some none) (sup : PySem.W.ks_superIn K D D "__init__" = some (some (.builtin "ValueError.__init__"))) (ve : PySem.W.subIn K (.ref D) (.type "ValueError") = some true)
    (at_ : PySem.W.findIn K (.ref D) "at" = some none) (xl : K.lookup D = some (excClassObj nm qn D N bs bm true sn sub ab col dd k0 k1 k2 k3 k5 "ValueError.__new__")) (rb : PySem.HandSPX.refsVE bm = true)
    (sa : PySem.W.findIn K (.ref D) "__setattr__" = some (some (.builtin "object.__setattr__"))) (exC : PySem.W.subIn K (.ref D) (.type "BaseException") = some true) (tyC : PySem.W.typeIn K (.ref D) = some (.type "type")) (kC : PySem.W.keepIn K (.ref D) = true)
    (S : ScX (defScope st) (defArgs st)) (b : ∀ (kV doc pm : Value) (an : Option Addr) (cdv ct : Value) (cc : Addr) (us : List Value), us.length = 2 → bindArgs (PySem.W.ksFn "__init__" q (defArgs st) (defBody st) (defScope st) .none kV doc pm an cdv ct cc) ⟨us, []⟩ = pure ((["self", "at"] : List Str).zip us)) : XcK prg K mg x q st D where
  m := PySem.W.mg_of X G m
  ex := ⟨fI, _, cc, cda, i, ti, ⟨⟨oc, od, osl, .none, kV, doc, pm, an, ct, rfl, l⟩, c, S.sc, S.ar, ⟨c1, dd1, vs, sl1, file, tf, lc, lc2, lc3⟩, ⟨c2, dd2, sl2, ll⟩, topX, ⟨cd, cls⟩⟩, .all fun us h => b _ _ _ _ _ _ _ us h⟩
  sup := ⟨su, opq, sup, ve⟩
  at_ := at_
  o := ⟨⟨nm, qn, N, bs, bm, sn, sub, ab, col, dd, k0, k1, k2, k3, k5, xl, rb⟩, sa, exC, tyC, kC⟩
theorem lamT_mk {PtA PtR : Addr} (hne : PtA ≠ PtR) : LamT [(PtA, (("_law_added" : Str) ++ ".<locals>.") ++ "<lambda>"), (PtR, (("_law_refused" : Str) ++ ".<locals>.") ++ "<lambda>")] PtA "_law_added" ∧ LamT [(PtA, (("_law_added" : Str) ++ ".<locals>.") ++ "<lambda>"), (PtR, (("_law_refused" : Str) ++ ".<locals>.") ++ "<lambda>")] PtR "_law_refused" := by
  refine ⟨⟨List.mem_cons_self, fun p hp e => ?_⟩, ⟨List.mem_cons_of_mem _ List.mem_cons_self, fun p hp e => ?_⟩⟩
  · rcases List.mem_cons.mp hp with z | z
    · rw [z]
    · rw [List.mem_singleton.mp z] at e
      exact absurd e (Ne.symm hne)
  · rcases List.mem_cons.mp hp with z | z
    · rw [z] at e
      exact absurd e hne
    · rw [List.mem_singleton.mp z]
abbrev rwl : PySem.W.OpenLaw := PySem.Challenge.rw_noneleft_k22_whole_who_must_come
theorem law_at {K : PySem.W.Frag} {mg : Str → Option Value} {h : Heap} {w : World} {fa f : Addr} {C cC cR cQ cF cdA PtA cdR PtR : Addr} {oc : Value} {od an : Option Addr} {osl : Array (Option Value)} {kV doc pm cdv ct : Value} (X : K.In h) (G : h.Ns mainGlobals mg) (hfa : mg "law" = some (.ref fa))
    (W : Tops prg K mg C cC cR cQ cF) (dA : DfL0 K mg "_law_added" sLAdded ["_law_book_here", "_law_batches", "_law_crowd_here", "_law_costs_here", "_law_before"] cdA)
    (dR : DfL0 K mg "_law_refused" sRefused ["_law_deal", "_law_kinds", "_law_batches", "_law_book_here"] cdR) (hne : PtA ≠ PtR)
    (hA : PySem.W.codeHdIn K cdA PtA = true) (hR : PySem.W.codeHdIn K cdR PtR = true) (tA : h.get? PtA = some (PySem.W.tabObj #[])) (tR : h.get? PtR = some (PySem.W.tabObj #[])) (nA : K.lookup PtA = none) (nR : K.lookup PtR = none)
    (a : PySem.W.nsIn K mainGlobals "law" = some (some (.ref f))) (l : K.lookup f = some ⟨oc, od, .func (PySem.W.fnOf "law" "law" (defArgs sLaw) (defBody sLaw) (defScope sLaw) .none kV doc pm an cdv ct), osl⟩) (c : PySem.W.codeIn K cdv "law" = true) (k : PySem.W.keepIn K (.ref f) = true) :
    LamX.LawAtS rwl w K (L2.CX rwl.prog w) 49 63 "_law_script" mg fa h := by
  have e := hfa.symm.trans (PySem.W.mg_of X G a)
  cases e
  obtain ⟨lA, lR⟩ := lamT_mk hne
  have two : ∀ {p : Addr × Addr} {Q : Addr × Addr → Prop}, Q (cdA, PtA) → Q (cdR, PtR) → p ∈ [(cdA, PtA), (cdR, PtR)] → Q p := fun {p Q} h1 h2 hp => by
    rcases List.mem_cons.mp hp with z | z
    · rw [z]; exact h1
    · rw [List.mem_singleton.mp z]; exact h2
  refine ⟨_, [(cdA, PtA), (cdR, PtR)], lift _ K spLaw, fun p hp => two (Q := fun p => h.get? p.2 = some { cls := .none, data := .fields #[] }) tA tR hp, fun p hp => two (Q := fun p => K.lookup p.2 = none) nA nR hp, fun p hp => two (Q := fun p => PySem.W.CodeHd h p.1 p.2) (PySem.W.codeHd_of_K X hA) (PySem.W.codeHd_of_K X hR) hp,
    fun s v => .of_eq rfl, fun H a ns hl _ ht hs => law_start (fun p hp => ?_) hl hs, fun base b1 b2 tb => all_ok W lA lR dA (tb _ List.mem_cons_self) dR (tb _ (List.mem_cons_of_mem _ List.mem_cons_self)) (fun_mk l c k)⟩
  rcases List.mem_cons.mp hp with z | z
  · rw [z]; exact ht _ List.mem_cons_self
  · rw [List.mem_singleton.mp z]; exact ht _ (List.mem_cons_of_mem _ List.mem_cons_self)
/-- what the four classes must be, by what the top has written -/
theorem xf_mk {K : PySem.W.Frag} {C : Addr} (ga : PySem.W.findIn K (.ref C) "__getattribute__" = some (some (.builtin "BaseException.__getattribute__"))) (gg : PySem.W.findIn K (.ref C) "__getattr__" = some none) (exC : PySem.W.subIn K (.ref C) (.type "BaseException") = some true) (hd : PySem.W.hasDictIn K C = true) : XfC K C := ⟨ga, gg, exC, hd⟩
theorem bI_mk {K : PySem.W.Frag} {C f : Addr} {oc : Value} {od an : Option Addr} {osl : Array (Option Value)} {kV doc pm cdv ct : Value} (m1 : PySem.W.makesIn K C = true) (m2 : PySem.W.findIn K (.ref C) "__init__" = some (some (.ref f))) (m3 : PySem.W.isFn K (.ref f) = true) (m4 : PySem.W.keepIn K (.ref C) = true)
    (l : K.lookup f = some ⟨oc, od, .func (PySem.W.fnOf "__init__" "Book.__init__" (defArgs sBookInit) (defBody sBookInit) (defScope sBookInit) .none kV doc pm an cdv ct), osl⟩) (c : PySem.W.codeIn K cdv "Book.__init__" = true) (k : PySem.W.keepIn K (.ref f) = true) :
    ∃ f fd, Mk K C f ∧ Fun K "__init__" "Book.__init__" sBookInit f fd ∧ Binds K fd ["self", "kinds", "batches"] [] :=
  ⟨f, _, ⟨m1, m2, m3, m4⟩, fun_mk l c k, (fun_mk l c k).binds fun _ _ _ _ _ _ us hl => match us, hl with | [_, _, _], _ => rfl⟩
theorem rf_mk {K : PySem.W.Frag} {mg : Str → Option Value} {cC cR cQ cF : Addr} (mC : mg "InvalidCrowd" = some (.ref cC)) (mR : mg "InvalidRun" = some (.ref cR)) (mQ : mg "InvalidQuestion" = some (.ref cQ)) (mF : mg "Refused" = some (.ref cF))
    (fC : XfC K cC) (fR : XfC K cR) (fQ : XfC K cQ) (aC : PySem.W.findIn K (.ref cC) "at" = some none) (aR : PySem.W.findIn K (.ref cR) "at" = some none) (aQ : PySem.W.findIn K (.ref cQ) "at" = some none)
    (tC : PySem.W.typeIn K (.ref cC) = some (.type "type")) (tR : PySem.W.typeIn K (.ref cR) = some (.type "type")) (tQ : PySem.W.typeIn K (.ref cQ) = some (.type "type"))
    (sCC : PySem.W.subIn K (.ref cC) (.ref cC) = some true) (sRC : PySem.W.subIn K (.ref cR) (.ref cC) = some false) (sRR : PySem.W.subIn K (.ref cR) (.ref cR) = some true) (sQC : PySem.W.subIn K (.ref cQ) (.ref cC) = some false) (sQR : PySem.W.subIn K (.ref cQ) (.ref cR) = some false) (sQQ : PySem.W.subIn K (.ref cQ) (.ref cQ) = some true) : RfK K mg cC cR cQ cF where
  mC := mC
  mR := mR
  mQ := mQ
  mF := mF
  xC := PySem.W.exm_ref fC.exC fC.hdC tC sCC
  xR := PySem.W.exm_ref fC.exC fC.hdC tC sRC
  xR2 := PySem.W.exm_ref fR.exC fR.hdC tR sRR
  xQ := PySem.W.exm_ref fC.exC fC.hdC tC sQC
  xQ2 := PySem.W.exm_ref fR.exC fR.hdC tR sQR
  xQ3 := PySem.W.exm_ref fQ.exC fQ.hdC tQ sQQ
  fC := fC
  fR := fR
  fQ := fQ
  aC := aC
  aR := aR
  aQ := aQ
theorem bk_mk {K : PySem.W.Frag} {C : Addr} (a : PySem.W.plainGet K C Str.empty = true) (b : PySem.W.hasDictIn K C = true) (c : PySem.W.plainOver K C = true) (d : PySem.W.findIn K (.ref C) "__setattr__" = some (some (.builtin "object.__setattr__")))
    (e : PySem.W.findIn K (.ref C) "kinds" = some none) (f : PySem.W.findIn K (.ref C) "batches" = some none) (g : PySem.W.findIn K (.ref C) "_found" = some none) : Bk K C := ⟨⟨a, b, c, d⟩, e, f, g⟩
end DL

set_option Elab.async false
set_option linter.all false
set_option maxRecDepth 100000
open PySem PySem.W PyProof.Rows in
set_option maxRecDepth 100000 in
set_option maxHeartbeats 0 in
theorem PySem.Challenge.cw_noneleft_k22_whole_who_must_come_holds : PySem.Challenge.rw_noneleft_k22_whole_who_must_come.Holds := by
  w_on; o_law; k_head; (case hw => w_witness2)
  k_fill
  refine LamX.walk_ofTs (l := DL.rwl) (n := 63) (k := 49) (x := "_law_script") (CX := fun w => L2.CX DL.rwl.prog w) rfl (by decide) rfl ⟨rfl, by decide, by decide⟩ (fun w h Y => PySem.W.km_in_of Y) ?F ?X
  case X =>
    intro w H s e s' z
    obtain ⟨_, _, _, _, _, _, _, _, _, _, _, _, z⟩ := z
    exact z
  case F =>
    intro w mg fa h Y KX G hmg
    have hT := PySem.W.km_tabs_of Y
    refine' DL.law_at (PtA := 416) (PtR := 423) KX G hmg ?W ?dA ?dR (by decide) ?hA ?hR (hT 416 (by simp)) (hT 423 (by simp)) ?nA ?nR ?a ?l ?c ?k
    (case a => k_is); (case l => k_is); (case c => k_is); (case k => k_is)
    case dA =>
      refine' DL.dfL_mk KX G ?a_1 ?l_1 ?c_1 ?k_1 (fun _ _ _ _ _ _ us hl => match us, hl with | [_, _, _, _, _], _ => rfl)
      (case a_1 => k_is); (case l_1 => k_is); (case c_1 => k_is); (case k_1 => k_is)
    case dR =>
      refine' DL.dfL_mk KX G ?a_2 ?l_2 ?c_2 ?k_2 (fun _ _ _ _ _ _ us hl => match us, hl with | [_, _, _, _], _ => rfl)
      (case a_2 => k_is); (case l_2 => k_is); (case c_2 => k_is); (case k_2 => k_is)
    (case hA => kernel_rfl); (case hR => kernel_rfl); (case nA => kernel_rfl); (case nR => kernel_rfl)
    case W =>
      refine' { t := ?t, su := ?su, bk := ?bk, mB := ?mB, bI := ?bI, x3 := ?x3, x4 := ?x4, x5 := ?x5, rf := ?rf, d8 := ?d8, d9 := ?d9, d10 := ?d10, d11 := ?d11, d12 := ?d12, d13 := ?d13, d14 := ?d14, d15 := ?d15, d17 := ?d17, d19 := ?d19, d21 := ?d21, d22 := ?d22, d24 := ?d24, d25 := ?d25, d26 := ?d26, d27 := ?d27, d28 := ?d28, d29 := ?d29, d30 := ?d30, d32 := ?d32, d33 := ?d33, d34 := ?d34, d35 := ?d35, d36 := ?d36, d37 := ?d37, d38 := ?d38, d39 := ?d39, d40 := ?d40, d41 := ?d41, d42 := ?d42, d43 := ?d43, d44 := ?d44, d45 := ?d45, d46 := ?d46, d47 := ?d47, d48 := ?d48, d49 := ?d49, d50 := ?d50, d51 := ?d51, d52 := ?d52, d53 := ?d53 }
      case mB =>
        refine' PySem.W.mg_of KX G ?a_3
        k_is
      case x3 =>
        refine' DL.xcK_mk KX G ?m_4 ?i_4 ?ti_4 ?l_4 ?c_4 ?lc_4 ?lc2_4 ?lc3_4 ?ll_4 ?cls_4 ?su_4 ?opq_4 ?sup_4 ?ve_4 ?at__4 ?xl_4 ?rb_4 ?sa_4 ?exC_4 ?tyC_4 ?kC_4 DL.scX3 DL.bX3
        (case m_4 => k_is); (case i_4 => k_is); (case ti_4 => k_is); (case l_4 => k_is); (case c_4 => k_is); (case lc_4 => k_is); (case lc2_4 => rfl); (case lc3_4 => decide +kernel); (case ll_4 => k_is); (case cls_4 => k_is); (case su_4 => k_is); (case opq_4 => k_is)
        (case sup_4 => kernel_rfl); (case ve_4 => k_is); (case at__4 => k_is); (case xl_4 => k_is); (case rb_4 => decide +kernel); (case sa_4 => k_is); (case exC_4 => k_is); (case tyC_4 => k_is); (case kC_4 => k_is)
      case x4 =>
        refine' DL.xcK_mk KX G ?m_5 ?i_5 ?ti_5 ?l_5 ?c_5 ?lc_5 ?lc2_5 ?lc3_5 ?ll_5 ?cls_5 ?su_5 ?opq_5 ?sup_5 ?ve_5 ?at__5 ?xl_5 ?rb_5 ?sa_5 ?exC_5 ?tyC_5 ?kC_5 DL.scX4 DL.bX4
        (case m_5 => k_is); (case i_5 => k_is); (case ti_5 => k_is); (case l_5 => k_is); (case c_5 => k_is); (case lc_5 => k_is); (case lc2_5 => rfl); (case lc3_5 => decide +kernel); (case ll_5 => k_is); (case cls_5 => k_is); (case su_5 => k_is); (case opq_5 => k_is)
        (case sup_5 => kernel_rfl); (case ve_5 => k_is); (case at__5 => k_is); (case xl_5 => k_is); (case rb_5 => decide +kernel); (case sa_5 => k_is); (case exC_5 => k_is); (case tyC_5 => k_is); (case kC_5 => k_is)
      case x5 =>
        refine' DL.xcK_mk KX G ?m_6 ?i_6 ?ti_6 ?l_6 ?c_6 ?lc_6 ?lc2_6 ?lc3_6 ?ll_6 ?cls_6 ?su_6 ?opq_6 ?sup_6 ?ve_6 ?at__6 ?xl_6 ?rb_6 ?sa_6 ?exC_6 ?tyC_6 ?kC_6 DL.scX5 DL.bX5
        (case m_6 => k_is); (case i_6 => k_is); (case ti_6 => k_is); (case l_6 => k_is); (case c_6 => k_is); (case lc_6 => k_is); (case lc2_6 => rfl); (case lc3_6 => decide +kernel); (case ll_6 => k_is); (case cls_6 => k_is); (case su_6 => k_is); (case opq_6 => k_is)
        (case sup_6 => kernel_rfl); (case ve_6 => k_is); (case at__6 => k_is); (case xl_6 => k_is); (case rb_6 => decide +kernel); (case sa_6 => k_is); (case exC_6 => k_is); (case tyC_6 => k_is); (case kC_6 => k_is)
      case rf =>
        refine' DL.rf_mk (PySem.W.mg_of KX G ?m1_7) (PySem.W.mg_of KX G ?m2_7) (PySem.W.mg_of KX G ?m3_7) (PySem.W.mg_of KX G ?m4_7) (DL.xf_mk ?f1_7 ?f2_7 ?f3_7 ?f4_7) (DL.xf_mk ?g1_7 ?g2_7 ?g3_7 ?g4_7) (DL.xf_mk ?h1_7 ?h2_7 ?h3_7 ?h4_7) ?aC_7 ?aR_7 ?aQ_7 ?tC_7 ?tR_7 ?tQ_7 ?sCC_7 ?sRC_7 ?sRR_7 ?sQC_7 ?sQR_7 ?sQQ_7
        (case m1_7 => k_is); (case m2_7 => k_is); (case m3_7 => k_is); (case m4_7 => k_is); (case f1_7 => k_is); (case f2_7 => k_is); (case f3_7 => k_is); (case f4_7 => k_is); (case g1_7 => k_is); (case g2_7 => k_is); (case g3_7 => k_is); (case g4_7 => k_is); (case h1_7 => k_is); (case h2_7 => k_is); (case h3_7 => k_is); (case h4_7 => k_is); (case aC_7 => k_is); (case aR_7 => k_is); (case aQ_7 => k_is); (case tC_7 => k_is); (case tR_7 => k_is); (case tQ_7 => k_is); (case sCC_7 => k_is); (case sRC_7 => k_is); (case sRR_7 => k_is); (case sQC_7 => k_is); (case sQR_7 => k_is); (case sQQ_7 => k_is)
      case su =>
        refine' PySem.W.mg_none_of KX G ?a_8
        k_is
      case t =>
        refine' ⟨PySem.W.mg_none_of KX G ?z0_9, PySem.W.mg_none_of KX G ?z1_9, PySem.W.mg_none_of KX G ?z2_9, PySem.W.mg_none_of KX G ?z3_9, PySem.W.mg_none_of KX G ?z4_9, PySem.W.mg_none_of KX G ?z5_9, PySem.W.mg_none_of KX G ?z6_9, PySem.W.mg_none_of KX G ?z7_9, PySem.W.mg_none_of KX G ?z8_9, PySem.W.mg_none_of KX G ?z9_9, PySem.W.mg_none_of KX G ?z10_9, PySem.W.mg_none_of KX G ?z11_9, PySem.W.mg_none_of KX G ?z12_9, PySem.W.mg_none_of KX G ?z13_9, PySem.W.mg_none_of KX G ?z14_9, PySem.W.mg_none_of KX G ?z15_9⟩
        (case z0_9 => k_is); (case z1_9 => k_is); (case z2_9 => k_is); (case z3_9 => k_is); (case z4_9 => k_is); (case z5_9 => k_is); (case z6_9 => k_is); (case z7_9 => k_is); (case z8_9 => k_is); (case z9_9 => k_is); (case z10_9 => k_is); (case z11_9 => k_is); (case z12_9 => k_is); (case z13_9 => k_is); (case z14_9 => k_is); (case z15_9 => k_is)
      case bk =>
        refine' DL.bk_mk ?a_10 ?b_10 ?c_10 ?d_10 ?e_10 ?f_10 ?g_10
        (case a_10 => k_is); (case b_10 => k_is); (case c_10 => k_is); (case d_10 => k_is); (case e_10 => k_is); (case f_10 => k_is); (case g_10 => k_is)
      case bI =>
        refine' DL.bI_mk ?m2_11 ?m1_11 ?m3_11 ?m4_11 ?l_11 ?c_11 ?k_11
        (case m1_11 => k_is); (case m2_11 => k_is); (case m3_11 => k_is); (case m4_11 => k_is); (case l_11 => k_is); (case c_11 => k_is); (case k_11 => k_is)
      case d8 =>
        refine' DL.df_mk KX G ?a_12 ?l_12 ?c_12 ?k_12 (fun _ _ _ _ _ _ us hl => match us, hl with | [_], _ => rfl)
        (case a_12 => k_is); (case l_12 => k_is); (case c_12 => k_is); (case k_12 => k_is)
      case d9 =>
        refine' DL.df_mk KX G ?a_13 ?l_13 ?c_13 ?k_13 (fun _ _ _ _ _ _ us hl => match us, hl with | [_], _ => rfl)
        (case a_13 => k_is); (case l_13 => k_is); (case c_13 => k_is); (case k_13 => k_is)
      case d10 =>
        refine' DL.df_mk KX G ?a_14 ?l_14 ?c_14 ?k_14 (fun _ _ _ _ _ _ us hl => match us, hl with | [_, _], _ => rfl)
        (case a_14 => k_is); (case l_14 => k_is); (case c_14 => k_is); (case k_14 => k_is)
      case d11 =>
        refine' DL.df_mk KX G ?a_15 ?l_15 ?c_15 ?k_15 (fun _ _ _ _ _ _ us hl => match us, hl with | [_], _ => rfl)
        (case a_15 => k_is); (case l_15 => k_is); (case c_15 => k_is); (case k_15 => k_is)
      case d12 =>
        refine' DL.df_mk KX G ?a_16 ?l_16 ?c_16 ?k_16 (fun _ _ _ _ _ _ us hl => match us, hl with | [_, _], _ => rfl)
        (case a_16 => k_is); (case l_16 => k_is); (case c_16 => k_is); (case k_16 => k_is)
      case d13 =>
        refine' DL.df_mk KX G ?a_17 ?l_17 ?c_17 ?k_17 (fun _ _ _ _ _ _ us hl => match us, hl with | [_, _], _ => rfl)
        (case a_17 => k_is); (case l_17 => k_is); (case c_17 => k_is); (case k_17 => k_is)
      case d14 =>
        refine' DL.df_mk KX G ?a_18 ?l_18 ?c_18 ?k_18 (fun _ _ _ _ _ _ us hl => match us, hl with | [_, _], _ => rfl)
        (case a_18 => k_is); (case l_18 => k_is); (case c_18 => k_is); (case k_18 => k_is)
      case d15 =>
        refine' DL.df_mk KX G ?a_19 ?l_19 ?c_19 ?k_19 (fun _ _ _ _ _ _ us hl => match us, hl with | [_], _ => rfl)
        (case a_19 => k_is); (case l_19 => k_is); (case c_19 => k_is); (case k_19 => k_is)
      case d17 =>
        refine' DL.df_mk KX G ?a_20 ?l_20 ?c_20 ?k_20 (fun _ _ _ _ _ _ us hl => match us, hl with | [_, _], _ => rfl)
        (case a_20 => k_is); (case l_20 => k_is); (case c_20 => k_is); (case k_20 => k_is)
      case d19 =>
        refine' DL.df_mk KX G ?a_21 ?l_21 ?c_21 ?k_21 (fun _ _ _ _ _ _ us hl => match us, hl with | [_, _], _ => rfl)
        (case a_21 => k_is); (case l_21 => k_is); (case c_21 => k_is); (case k_21 => k_is)
      case d21 =>
        refine' DL.df_mk KX G ?a_22 ?l_22 ?c_22 ?k_22 (fun _ _ _ _ _ _ us hl => match us, hl with | [_, _], _ => rfl)
        (case a_22 => k_is); (case l_22 => k_is); (case c_22 => k_is); (case k_22 => k_is)
      case d22 =>
        refine' DL.df_mk KX G ?a_23 ?l_23 ?c_23 ?k_23 (fun _ _ _ _ _ _ us hl => match us, hl with | [_, _], _ => rfl)
        (case a_23 => k_is); (case l_23 => k_is); (case c_23 => k_is); (case k_23 => k_is)
      case d24 =>
        refine' DL.df_mk KX G ?a_24 ?l_24 ?c_24 ?k_24 (fun _ _ _ _ _ _ us hl => match us, hl with | [_, _], _ => rfl)
        (case a_24 => k_is); (case l_24 => k_is); (case c_24 => k_is); (case k_24 => k_is)
      case d25 =>
        refine' DL.df_mk KX G ?a_25 ?l_25 ?c_25 ?k_25 (fun _ _ _ _ _ _ us hl => match us, hl with | [_, _], _ => rfl)
        (case a_25 => k_is); (case l_25 => k_is); (case c_25 => k_is); (case k_25 => k_is)
      case d26 =>
        refine' DL.df_mk KX G ?a_26 ?l_26 ?c_26 ?k_26 (fun _ _ _ _ _ _ us hl => match us, hl with | [_, _], _ => rfl)
        (case a_26 => k_is); (case l_26 => k_is); (case c_26 => k_is); (case k_26 => k_is)
      case d27 =>
        refine' DL.df_mk KX G ?a_27 ?l_27 ?c_27 ?k_27 (fun _ _ _ _ _ _ us hl => match us, hl with | [_, _, _, _], _ => rfl)
        (case a_27 => k_is); (case l_27 => k_is); (case c_27 => k_is); (case k_27 => k_is)
      case d28 =>
        refine' DL.dfR_mk KX G ?a_28 ?l_28 ?c_28 ?k_28 (fun _ _ _ _ _ _ us hl => match us, hl with | [_, _, _], _ => rfl) (fun _ _ _ _ _ _ us hl => match us, hl with | [_, _, _], _ => rfl)
        (case a_28 => k_is); (case l_28 => k_is); (case c_28 => k_is); (case k_28 => k_is)
      case d29 =>
        refine' DL.dfR_mk KX G ?a_29 ?l_29 ?c_29 ?k_29 (fun _ _ _ _ _ _ us hl => match us, hl with | [_, _, _], _ => rfl) (fun _ _ _ _ _ _ us hl => match us, hl with | [_, _, _], _ => rfl)
        (case a_29 => k_is); (case l_29 => k_is); (case c_29 => k_is); (case k_29 => k_is)
      case d30 =>
        refine' DL.dfR_mk KX G ?a_30 ?l_30 ?c_30 ?k_30 (fun _ _ _ _ _ _ us hl => match us, hl with | [_, _, _, _], _ => rfl) (fun _ _ _ _ _ _ us hl => match us, hl with | [_, _, _, _], _ => rfl)
        (case a_30 => k_is); (case l_30 => k_is); (case c_30 => k_is); (case k_30 => k_is)
      case d32 =>
        refine' DL.df_mk KX G ?a_31 ?l_31 ?c_31 ?k_31 (fun _ _ _ _ _ _ us hl => match us, hl with | [_, _], _ => rfl)
        (case a_31 => k_is); (case l_31 => k_is); (case c_31 => k_is); (case k_31 => k_is)
      case d33 =>
        refine' DL.df_mk KX G ?a_32 ?l_32 ?c_32 ?k_32 (fun _ _ _ _ _ _ us hl => match us, hl with | [_, _], _ => rfl)
        (case a_32 => k_is); (case l_32 => k_is); (case c_32 => k_is); (case k_32 => k_is)
      case d34 =>
        refine' DL.df_mk KX G ?a_33 ?l_33 ?c_33 ?k_33 (fun _ _ _ _ _ _ us hl => match us, hl with | [_, _], _ => rfl)
        (case a_33 => k_is); (case l_33 => k_is); (case c_33 => k_is); (case k_33 => k_is)
      case d35 =>
        refine' DL.df_mk KX G ?a_34 ?l_34 ?c_34 ?k_34 (fun _ _ _ _ _ _ us hl => match us, hl with | [_, _], _ => rfl)
        (case a_34 => k_is); (case l_34 => k_is); (case c_34 => k_is); (case k_34 => k_is)
      case d36 =>
        refine' DL.df_mk KX G ?a_35 ?l_35 ?c_35 ?k_35 (fun _ _ _ _ _ _ us hl => match us, hl with | [_, _], _ => rfl)
        (case a_35 => k_is); (case l_35 => k_is); (case c_35 => k_is); (case k_35 => k_is)
      case d37 =>
        refine' DL.df_mk KX G ?a_36 ?l_36 ?c_36 ?k_36 (fun _ _ _ _ _ _ us hl => match us, hl with | [_, _], _ => rfl)
        (case a_36 => k_is); (case l_36 => k_is); (case c_36 => k_is); (case k_36 => k_is)
      case d38 =>
        refine' DL.df_mk KX G ?a_37 ?l_37 ?c_37 ?k_37 (fun _ _ _ _ _ _ us hl => match us, hl with | [_, _], _ => rfl)
        (case a_37 => k_is); (case l_37 => k_is); (case c_37 => k_is); (case k_37 => k_is)
      case d39 =>
        refine' DL.df_mk KX G ?a_38 ?l_38 ?c_38 ?k_38 (fun _ _ _ _ _ _ us hl => match us, hl with | [_, _, _], _ => rfl)
        (case a_38 => k_is); (case l_38 => k_is); (case c_38 => k_is); (case k_38 => k_is)
      case d40 =>
        refine' DL.df_mk KX G ?a_39 ?l_39 ?c_39 ?k_39 (fun _ _ _ _ _ _ us hl => match us, hl with | [_, _], _ => rfl)
        (case a_39 => k_is); (case l_39 => k_is); (case c_39 => k_is); (case k_39 => k_is)
      case d41 =>
        refine' DL.df_mk KX G ?a_40 ?l_40 ?c_40 ?k_40 (fun _ _ _ _ _ _ us hl => match us, hl with | [_, _], _ => rfl)
        (case a_40 => k_is); (case l_40 => k_is); (case c_40 => k_is); (case k_40 => k_is)
      case d42 =>
        refine' DL.df_mk KX G ?a_41 ?l_41 ?c_41 ?k_41 (fun _ _ _ _ _ _ us hl => match us, hl with | [_], _ => rfl)
        (case a_41 => k_is); (case l_41 => k_is); (case c_41 => k_is); (case k_41 => k_is)
      case d43 =>
        refine' DL.df_mk KX G ?a_42 ?l_42 ?c_42 ?k_42 (fun _ _ _ _ _ _ us hl => match us, hl with | [_, _, _], _ => rfl)
        (case a_42 => k_is); (case l_42 => k_is); (case c_42 => k_is); (case k_42 => k_is)
      case d44 =>
        refine' DL.df_mk KX G ?a_43 ?l_43 ?c_43 ?k_43 (fun _ _ _ _ _ _ us hl => match us, hl with | [_, _], _ => rfl)
        (case a_43 => k_is); (case l_43 => k_is); (case c_43 => k_is); (case k_43 => k_is)
      case d45 =>
        refine' DL.df_mk KX G ?a_44 ?l_44 ?c_44 ?k_44 (fun _ _ _ _ _ _ us hl => match us, hl with | [_, _], _ => rfl)
        (case a_44 => k_is); (case l_44 => k_is); (case c_44 => k_is); (case k_44 => k_is)
      case d46 =>
        refine' DL.df_mk KX G ?a_45 ?l_45 ?c_45 ?k_45 (fun _ _ _ _ _ _ us hl => match us, hl with | [_, _], _ => rfl)
        (case a_45 => k_is); (case l_45 => k_is); (case c_45 => k_is); (case k_45 => k_is)
      case d47 =>
        refine' DL.df_mk KX G ?a_46 ?l_46 ?c_46 ?k_46 (fun _ _ _ _ _ _ us hl => match us, hl with | [_, _, _], _ => rfl)
        (case a_46 => k_is); (case l_46 => k_is); (case c_46 => k_is); (case k_46 => k_is)
      case d48 =>
        refine' DL.df_mk KX G ?a_47 ?l_47 ?c_47 ?k_47 (fun _ _ _ _ _ _ us hl => match us, hl with | [_], _ => rfl)
        (case a_47 => k_is); (case l_47 => k_is); (case c_47 => k_is); (case k_47 => k_is)
      case d49 =>
        refine' DL.df_mk KX G ?a_48 ?l_48 ?c_48 ?k_48 (fun _ _ _ _ _ _ us hl => match us, hl with | [_, _], _ => rfl)
        (case a_48 => k_is); (case l_48 => k_is); (case c_48 => k_is); (case k_48 => k_is)
      case d50 =>
        refine' DL.df_mk KX G ?a_49 ?l_49 ?c_49 ?k_49 (fun _ _ _ _ _ _ us hl => match us, hl with | [_, _, _], _ => rfl)
        (case a_49 => k_is); (case l_49 => k_is); (case c_49 => k_is); (case k_49 => k_is)
      case d51 =>
        refine' DL.df_mk KX G ?a_50 ?l_50 ?c_50 ?k_50 (fun _ _ _ _ _ _ us hl => match us, hl with | [_, _], _ => rfl)
        (case a_50 => k_is); (case l_50 => k_is); (case c_50 => k_is); (case k_50 => k_is)
      case d52 =>
        refine' DL.df_mk KX G ?a_51 ?l_51 ?c_51 ?k_51 (fun _ _ _ _ _ _ us hl => match us, hl with | [_, _, _, _, _], _ => rfl)
        (case a_51 => k_is); (case l_51 => k_is); (case c_51 => k_is); (case k_51 => k_is)
      case d53 =>
        refine' DL.df_mk KX G ?a_52 ?l_52 ?c_52 ?k_52 (fun _ _ _ _ _ _ us hl => match us, hl with | [_, _, _, _, _], _ => rfl)
        (case a_52 => k_is); (case l_52 => k_is); (case c_52 => k_is); (case k_52 => k_is)
