import PyProof.Rows.All
import Wide.All
import OpenK.AllK
import Wide.FinOn
import HandS.ForMost
import HandS.ForExc
import HandS.Flow
import HandS.IsInst
import HandS.TupAny
import HandS.TupMul
import HandS.SortInts
import HandS.SortRule
import HandS.Walk
import HandS.More
import PySem.Challenge.RW_anyenough_k67_whole_turns_of_many_neighb
set_option Elab.async false
set_option linter.all false
set_option maxRecDepth 100000
set_option maxHeartbeats 4000000
/-! DL: data without the heap: pure tuples, lists that nobody changes; cells for what is changed. -/
namespace DL
open PySem L2

inductive D where
  | non | bl (b : Bool) | int (i : Int) | str (s : Str) | ref (n : Nat) | ty (n : String)
  | tup (ds : List D) | kt (ds : List D) | lst (ds : List D) | fz (ds : List D) | dct (ks : List Key) (ds : List D)
inductive Cell where
  | lst (ds : List D) | dct (kds : List (Key × D)) | ins (C : Addr) (fds : List (Str × D))
abbrev DH := List Cell
abbrev DE := List (Option D)
inductive Res (α : Type) where
  | ok (a : α) (h : DH) | ex (C : Addr) (fs : Option (List Str × List D)) (h : DH) | bad
def Res.bind {α β : Type} (r : Res α) (k : α → DH → Res β) : Res β := match r with
  | .ok a h => k a h
  | .ex C fs h => .ex C fs h
  | .bad => .bad
@[simp] theorem Res.bind_ok {α β : Type} (a : α) (h : DH) (k : α → DH → Res β) : (Res.ok a h).bind k = k a h := rfl
@[simp] theorem Res.bind_ex {α β : Type} (C : Addr) (fs) (h : DH) (k : α → DH → Res β) : (Res.ex C fs h : Res α).bind k = .ex C fs h := rfl
@[simp] theorem Res.bind_bad {α β : Type} (k : α → DH → Res β) : (Res.bad : Res α).bind k = .bad := rfl
abbrev EM (α : Type) := DE → DH → Res α

abbrev noH : Hp := fun _ => none
/-- the cells' addresses; addresses that no value may name -/
structure AS where
  l : List Addr
  bn : List Addr
def AS.no (A : AS) (a : Addr) : Prop := a ∉ A.l ∧ a ∉ A.bn
def AS.add (A : AS) (p : Addr) : AS := ⟨A.l ++ [p], A.bn⟩
def AS.ban (A : AS) (p : Addr) : AS := ⟨A.l, p :: A.bn⟩
mutual
inductive Rp (K : PySem.W.Frag) (H : Hp) (as : AS) : V → D → Prop
  | non : Rp K H as .non .non
  | bl (b : Bool) : Rp K H as (.bl b) (.bl b)
  | int (i : Int) : Rp K H as (.int i) (.int i)
  | str (x : Str) : Rp K H as (.str x) (.str x)
  | ty (n : String) : Rp K H as (.ty n) (.ty n)
  | ref {n : Nat} {a : Addr} : as.l[n]? = some a → Rp K H as (.ref a) (.ref n)
  | tup {a : Addr} {vs : List V} {ds : List D} : H a = some (.tup vs) → RpL K H as vs ds → Rp K H as (.ref a) (.tup ds)
  | kt {a : Addr} {vs : List V} {ds : List D} : SqT K noH a vs → RpL K H as vs ds → Rp K H as (.ref a) (.kt ds)
  | lst {a : Addr} {vs : List V} {ds : List D} : H a = some (.lst vs) → as.no a → RpL K H as vs ds → Rp K H as (.ref a) (.lst ds)
  | fz {a : Addr} {vs : List V} {ds : List D} : ((Rd H a (.lst vs) ∧ as.no a) ∨ SqL K noH a vs) → RpL K H as vs ds → Rp K H as (.ref a) (.fz ds)
  | dct {a : Addr} {kvs : List (Key × V)} {ks : List Key} {vs : List V} {ds : List D} : Rd H a (.dK kvs) → as.no a → kvs.map (·.1) = ks → kvs.map (·.2) = vs → RpL K H as vs ds → Rp K H as (.ref a) (.dct ks ds)
inductive RpL (K : PySem.W.Frag) (H : Hp) (as : AS) : List V → List D → Prop
  | nil : RpL K H as [] []
  | cons {v : V} {vs : List V} {d : D} {ds : List D} : Rp K H as v d → RpL K H as vs ds → RpL K H as (v :: vs) (d :: ds)
end
def RC (K : PySem.W.Frag) (H : Hp) (as : AS) : Cell → Addr → Prop
  | .lst ds, a => ∃ vs, H a = some (.lst vs) ∧ RpL K H as vs ds
  | .dct kds, a => ∃ kvs : List (Key × V), H a = some (.dK kvs) ∧ kvs.map (·.1) = kds.map (·.1) ∧ RpL K H as (kvs.map (·.2)) (kds.map (·.2))
  | .ins C fds, a => ∃ (dx : Addr) (fvs : List (Str × V)), H a = some (.ins C dx fvs) ∧ fvs.map (·.1) = fds.map (·.1) ∧ RpL K H as (fvs.map (·.2)) (fds.map (·.2))
structure RH (K : PySem.W.Frag) (H : Hp) (as : AS) (h : DH) : Prop where
  len : as.l.length = h.length
  nd : as.l.Nodup
  cell : ∀ (n : Nat) (c : Cell) (a : Addr), h[n]? = some c → as.l[n]? = some a → RC K H as c a
  bnd : ∀ b ∈ as.bn, (∃ o, H b = some o) ∧ b ∉ as.l
structure RE (K : PySem.W.Frag) (H : Hp) (as : AS) (σ : L2.St) (ρ : DE) : Prop where
  len : σ.length = ρ.length
  get : ∀ (i : Nat) (d : D), ρ[i]? = some (some d) → ∃ v, σ[i]? = some (some v) ∧ Rp K H as v d
structure Stp (as : AS) (H : Hp) (as' : AS) (H' : Hp) : Prop where
  pre : ∃ t, as'.l = as.l ++ t
  bn : as'.bn = as.bn
  keep : ∀ a o, H a = some o → a ∉ as.l → H' a = some o ∧ a ∉ as'.l
theorem Stp.refl (as : AS) (H : Hp) : Stp as H as H := ⟨⟨[], by simp⟩, rfl, fun a o h n => ⟨h, n⟩⟩
theorem Stp.trans {as as1 as2 : AS} {H H1 H2 : Hp} (a : Stp as H as1 H1) (b : Stp as1 H1 as2 H2) : Stp as H as2 H2 := by
  obtain ⟨t, e⟩ := a.pre
  obtain ⟨u, q⟩ := b.pre
  refine ⟨⟨t ++ u, by rw [q, e]; simp⟩, b.bn.trans a.bn, fun x o h n => ?_⟩
  obtain ⟨h1, n1⟩ := a.keep x o h n
  exact b.keep x o h1 n1
theorem pre_get {l l' : List Addr} (p : ∃ t, l' = l ++ t) {n : Nat} {a : Addr} (h : l[n]? = some a) : l'[n]? = some a := by
  obtain ⟨t, e⟩ := p
  rw [e, List.getElem?_append_left (List.getElem?_eq_some_iff.mp h).1]
  exact h
theorem RC.kind {K : PySem.W.Frag} {H : Hp} {as : AS} {c : Cell} {a : Addr} (r : RC K H as c a) : (∃ xs, H a = some (.lst xs)) ∨ (∃ kvs, H a = some (.dK kvs)) ∨ ∃ C dx fs, H a = some (.ins C dx fs) := by
  cases c with
  | lst ds => obtain ⟨vs, h, _⟩ := r; exact .inl ⟨vs, h⟩
  | dct kds => obtain ⟨vs, h, _⟩ := r; exact .inr (.inl ⟨_, h⟩)
  | ins C fds => obtain ⟨dx, vs, h, _⟩ := r; exact .inr (.inr ⟨_, _, _, h⟩)
theorem RH.kind {K : PySem.W.Frag} {H : Hp} {as : AS} {h : DH} (r : RH K H as h) {a : Addr} (m : a ∈ as.l) : (∃ xs, H a = some (.lst xs)) ∨ (∃ kvs, H a = some (.dK kvs)) ∨ ∃ C dx fs, H a = some (.ins C dx fs) := by
  obtain ⟨n, hn, e⟩ := List.getElem_of_mem m
  have hh : n < h.length := by rw [← r.len]; exact hn
  exact (r.cell n h[n] a (List.getElem?_eq_getElem hh) (by rw [List.getElem?_eq_getElem hn, e])).kind
section
variable {K : PySem.W.Frag} {H : Hp} {as : AS} {h : DH} {a : Addr}
theorem RH.not_tup (r : RH K H as h) {xs : List V} (e : H a = some (.tup xs)) : a ∉ as.l := fun m => by
  rcases r.kind m with ⟨_, q⟩ | ⟨_, q⟩ | ⟨_, _, _, q⟩ <;> (rw [e] at q; cases q)
theorem RH.not_frz (r : RH K H as h) {o : Obj} {u : HO} (e : H a = some (.frz o u)) : a ∉ as.l := fun m => by
  rcases r.kind m with ⟨_, q⟩ | ⟨_, q⟩ | ⟨_, _, _, q⟩ <;> (rw [e] at q; cases q)
theorem RH.not_own (r : RH K H as h) {x : Addr} (e : H a = some (.own x)) : a ∉ as.l := fun m => by
  rcases r.kind m with ⟨_, q⟩ | ⟨_, q⟩ | ⟨_, _, _, q⟩ <;> (rw [e] at q; cases q)
theorem RH.not_xd (r : RH K H as h) {x : List (Str × V)} (e : H a = some (.xd x)) : a ∉ as.l := fun m => by
  rcases r.kind m with ⟨_, q⟩ | ⟨_, q⟩ | ⟨_, _, _, q⟩ <;> (rw [e] at q; cases q)
theorem RH.not_none (r : RH K H as h) (e : H a = none) : a ∉ as.l := fun m => by
  rcases r.kind m with ⟨_, q⟩ | ⟨_, q⟩ | ⟨_, _, _, q⟩ <;> (rw [e] at q; cases q)
end
/-- what carries a value's meaning from one heap to another -/
structure Tr (K : PySem.W.Frag) (H : Hp) (as : AS) (H' : Hp) (as' : AS) : Prop where
  pre : ∃ t, as'.l = as.l ++ t
  sq : ∀ a vs, H a = some (.tup vs) → H' a = some (.tup vs)
  keep : ∀ a o, H a = some o → as.no a → H' a = some o ∧ as'.no a
section
variable {K : PySem.W.Frag} {H H' : Hp} {as as' : AS} {h : DH}
theorem Tr.rd (s : Tr K H as H' as') {a : Addr} {u : HO} (n : as.no a) (r : Rd H a u) : Rd H' a u ∧ as'.no a := by
  rcases r with r | ⟨o, r⟩
  · exact ⟨.inl (s.keep a _ r n).1, (s.keep a _ r n).2⟩
  · exact ⟨.inr ⟨o, (s.keep a _ r n).1⟩, (s.keep a _ r n).2⟩
mutual
theorem Rp.tr (s : Tr K H as H' as') : ∀ (d : D) {v : V}, Rp K H as v d → Rp K H' as' v d
  | .non, _, r => by cases r; exact .non
  | .bl _, _, r => by cases r; exact .bl _
  | .int _, _, r => by cases r; exact .int _
  | .str _, _, r => by cases r; exact .str _
  | .ty _, _, r => by cases r; exact .ty _
  | .ref _, _, r => by cases r with | ref e => exact .ref (pre_get s.pre e)
  | .tup ds, _, r => by cases r with | tup e r => exact .tup (s.sq _ _ e) (RpL.tr s ds r)
  | .kt ds, _, r => by cases r with | kt e r => exact .kt e (RpL.tr s ds r)
  | .lst ds, _, r => by
    cases r with
    | lst e n r => exact .lst (s.keep _ _ e n).1 (s.keep _ _ e n).2 (RpL.tr s ds r)
  | .fz ds, _, r => by
    cases r with
    | fz e r =>
      refine .fz ?_ (RpL.tr s ds r)
      rcases e with ⟨e, n⟩ | e
      · exact .inl (s.rd n e)
      · exact .inr e
  | .dct ks ds, _, r => by
    cases r with
    | dct e n k1 k2 r => exact .dct (s.rd n e).1 (s.rd n e).2 k1 k2 (RpL.tr s ds r)
theorem RpL.tr (s : Tr K H as H' as') : ∀ (ds : List D) {vs : List V}, RpL K H as vs ds → RpL K H' as' vs ds
  | [], _, r => by cases r; exact .nil
  | d :: ds, _, r => by cases r with | cons a b => exact .cons (Rp.tr s d a) (RpL.tr s ds b)
end
theorem RC.tr (s : Tr K H as H' as') {c : Cell} {a : Addr} (e : H' a = H a) (r : RC K H as c a) : RC K H' as' c a := by
  cases c with
  | lst ds => obtain ⟨vs, q, r⟩ := r; exact ⟨vs, by rw [e]; exact q, RpL.tr s ds r⟩
  | dct kds => obtain ⟨vs, q, k, r⟩ := r; exact ⟨vs, by rw [e]; exact q, k, RpL.tr s _ r⟩
  | ins C fds => obtain ⟨dx, vs, q, k, r⟩ := r; exact ⟨dx, vs, by rw [e]; exact q, k, RpL.tr s _ r⟩
theorem RE.tr {σ : L2.St} {ρ : DE} (s : Tr K H as H' as') (e : RE K H as σ ρ) : RE K H' as' σ ρ :=
  ⟨e.len, fun i d hi => let ⟨v, a, r⟩ := e.get i d hi; ⟨v, a, Rp.tr s d r⟩⟩
theorem RH.tr (R : RH K H as h) (s : Tr K H as H' as') (e : as'.l = as.l) (q : ∀ a ∈ as.l, H' a = H a) (hb : ∀ b ∈ as'.bn, (∃ o, H' b = some o) ∧ b ∉ as'.l) : RH K H' as' h :=
  ⟨by rw [e]; exact R.len, by rw [e]; exact R.nd, fun n c a hc ha => by
    rw [e] at ha
    exact (R.cell n c a hc ha).tr s (q a (List.mem_of_getElem? ha)), hb⟩
theorem Stp.tr (R : RH K H as h) (s : Stp as H as' H') : Tr K H as H' as' := by
  refine ⟨s.pre, fun a vs r => (s.keep a _ r (R.not_tup r)).1, fun a o e n => ?_⟩
  · obtain ⟨h1, h2⟩ := s.keep a o e n.1
    exact ⟨h1, h2, by rw [s.bn]; exact n.2⟩
theorem Rp.step (R : RH K H as h) (s : Stp as H as' H') (d : D) {v : V} (r : Rp K H as v d) : Rp K H' as' v d := r.tr (s.tr R)
theorem RpL.step (R : RH K H as h) (s : Stp as H as' H') (ds : List D) {vs : List V} (r : RpL K H as vs ds) : RpL K H' as' vs ds := RpL.tr (s.tr R) ds r
theorem RE.step {σ : L2.St} {ρ : DE} (R : RH K H as h) (s : Stp as H as' H') (e : RE K H as σ ρ) : RE K H' as' σ ρ := e.tr (s.tr R)
theorem RE.set {σ : L2.St} {ρ : DE} {v : V} {d : D} (e : RE K H as σ ρ) (i : Nat) (r : Rp K H as v d) : RE K H as (σ.set i (some v)) (ρ.set i (some d)) := by
  refine ⟨by simp [e.len], fun j d' hj => ?_⟩
  by_cases hij : i = j
  · subst hij
    have hl : i < ρ.length := by
      have := (List.getElem?_eq_some_iff.mp hj).1
      simpa using this
    rw [List.getElem?_set_self hl] at hj
    cases hj
    exact ⟨v, List.getElem?_set_self (by rw [e.len]; exact hl), r⟩
  · rw [List.getElem?_set_ne hij] at hj
    obtain ⟨w, a, b⟩ := e.get j d' hj
    exact ⟨w, by rw [List.getElem?_set_ne hij]; exact a, b⟩
theorem RpL.length : ∀ {ds : List D} {vs : List V}, RpL K H as vs ds → vs.length = ds.length
  | [], _, r => by cases r; rfl
  | d :: ds, _, r => by cases r with | cons a b => simp [RpL.length b]
theorem RpL.get : ∀ {ds : List D} {vs : List V} {i : Nat} {d : D}, RpL K H as vs ds → ds[i]? = some d → ∃ v, vs[i]? = some v ∧ Rp K H as v d
  | [], _, _, _, _, e => by simp at e
  | d :: ds, _, 0, _, r, e => by
    cases r with
    | cons a b =>
      simp at e
      subst e
      exact ⟨_, rfl, a⟩
  | d :: ds, _, i + 1, _, r, e => by
    cases r with
    | cons a b =>
      obtain ⟨v, h1, h2⟩ := RpL.get (i := i) b (by simpa using e)
      exact ⟨v, by simpa using h1, h2⟩
theorem RpL.getV : ∀ {ds : List D} {vs : List V} {i : Nat} {v : V}, RpL K H as vs ds → vs[i]? = some v → ∃ d, ds[i]? = some d ∧ Rp K H as v d
  | [], _, _, _, r, e => by cases r; simp at e
  | d :: ds, _, 0, _, r, e => by
    cases r with
    | cons a b =>
      simp at e
      subst e
      exact ⟨_, rfl, a⟩
  | d :: ds, _, i + 1, _, r, e => by
    cases r with
    | cons a b =>
      obtain ⟨v, h1, h2⟩ := RpL.getV (i := i) b (by simpa using e)
      exact ⟨v, by simpa using h1, h2⟩
theorem RpL.append : ∀ {ds es : List D} {vs ws : List V}, RpL K H as vs ds → RpL K H as ws es → RpL K H as (vs ++ ws) (ds ++ es)
  | [], _, _, _, r, q => by cases r; exact q
  | d :: ds, _, _, _, r, q => by cases r with | cons a b => exact .cons a (RpL.append b q)
theorem RpL.set {d : D} {v : V} (q : Rp K H as v d) : ∀ {ds : List D} {vs : List V} (i : Nat), RpL K H as vs ds → RpL K H as (vs.set i v) (ds.set i d)
  | [], _, _, r => by cases r; exact .nil
  | _ :: _, _, 0, r => by cases r with | cons a b => exact .cons q b
  | _ :: _, _, i + 1, r => by cases r with | cons a b => exact .cons a (RpL.set q i b)
end

/-! ### results -/
def RX (K : PySem.W.Frag) (H : Hp) (as : AS) (x : Option Addr) (fs : Option (List Str × List D)) : Prop := match fs with
  | none => x = none
  | some (ns, ds) => ∃ (d : Addr) (fvs : List (Str × V)), x = some d ∧ H d = some (.xd fvs) ∧ fvs.map (·.1) = ns ∧ RpL K H as (fvs.map (·.2)) ds
/-- the wish behind a result, anchored at as, H -/
def wpR (K : PySem.W.Frag) (W : Value → Option Addr → Hp → Prop) (as : AS) (H : Hp) {α : Type} (r : Res α) (P : AS → Hp → α → DH → Prop) : Prop := match r with
  | .ok a h' => ∀ as' H', Stp as H as' H' → RH K H' as' h' → P as' H' a h'
  | .ex C fs h' => ∀ as' H' x, Stp as H as' H' → RH K H' as' h' → RX K H' as' x fs → W (.ref C) x H'
  | .bad => False
section
variable {K : PySem.W.Frag} {W : Value → Option Addr → Hp → Prop} {H : Hp} {as : AS} {α β : Type}
theorem wpR_mono {r : Res α} {P P' : AS → Hp → α → DH → Prop} (w : wpR K W as H r P) (hp : ∀ as' H' a h', Stp as H as' H' → RH K H' as' h' → P as' H' a h' → P' as' H' a h') : wpR K W as H r P' := by
  cases r with
  | ok a h' => exact fun as' H' s R => hp as' H' a h' s R (w as' H' s R)
  | ex C fs h' => exact w
  | bad => exact w
theorem wpR_bind {r : Res α} {k : α → DH → Res β} {P : AS → Hp → β → DH → Prop} (w : wpR K W as H (r.bind k) P) : wpR K W as H r (fun as1 H1 a h1 => wpR K W as1 H1 (k a h1) P) := by
  cases r with
  | ok a h' =>
    refine fun as1 H1 s R => ?_
    have w' : wpR K W as H (k a h') P := w
    show wpR K W as1 H1 (k a h') P
    cases hk : k a h' with
    | ok b h2 =>
      rw [hk] at w'
      exact fun as2 H2 s2 R2 => w' as2 H2 (s.trans s2) R2
    | ex C fs h2 =>
      rw [hk] at w'
      exact fun as2 H2 x s2 R2 => w' as2 H2 x (s.trans s2) R2
    | bad =>
      rw [hk] at w'
      exact w'
  | ex C fs h' => exact w
  | bad => exact w
theorem wpR_step {as1 : AS} {H1 : Hp} {r : Res α} {P : AS → Hp → α → DH → Prop} (s : Stp as H as1 H1) (w : wpR K W as H r P) : wpR K W as1 H1 r P := by
  cases r with
  | ok a h' => exact fun as' H' s' R => w as' H' (s.trans s') R
  | ex C fs h' => exact fun as' H' x s' R => w as' H' x (s.trans s') R
  | bad => exact w
end
/-- slots, cells -/
structure RS (K : PySem.W.Frag) (σ : L2.St) (H : Hp) (as : AS) (ρ : DE) (h : DH) : Prop where
  e : RE K H as σ ρ
  h : RH K H as h
theorem RS.step {K : PySem.W.Frag} {σ : L2.St} {H H' : Hp} {as as' : AS} {ρ : DE} {h h' : DH} (r : RS K σ H as ρ h) (s : Stp as H as' H') (R : RH K H' as' h') : RS K σ H' as' ρ h' := ⟨r.e.step r.h s, R⟩

/-- the reading of an expression that does what m does -/
def tOf (K : PySem.W.Frag) (W : WX) (m : EM D) : TE := fun σ H Q => ∃ as ρ h, RS K σ H as ρ h ∧ wpR K (fun c x H' => W c x σ H') as H (m ρ h) (fun as' H' d _ => ∀ v, Rp K H' as' v d → Q v H')
/-- .. of a test -/
def tOfT (K : PySem.W.Frag) (W : WX) (m : EM Bool) : TT := fun σ H Q => ∃ as ρ h, RS K σ H as ρ h ∧ wpR K (fun c x H' => W c x σ H') as H (m ρ h) (fun _ H' b _ => Q b H')
/-- .. of an argument list -/
def tOfA (K : PySem.W.Frag) (W : WX) (m : EM (List D)) : TA := fun σ H Q => ∃ as ρ h, RS K σ H as ρ h ∧ wpR K (fun c x H' => W c x σ H') as H (m ρ h) (fun as' H' ds _ => ∀ vs, RpL K H' as' vs ds → Q vs H')
/-- .. of an expression that makes a new list -/
def tOfL (K : PySem.W.Frag) (W : WX) (m : EM (List D)) : TE := fun σ H Q => ∃ as ρ h, RS K σ H as ρ h ∧ wpR K (fun c x H' => W c x σ H') as H (m ρ h) (fun as' H' ds _ => ∀ p vs, H' p = none → RpL K H' as' vs ds → Q (.ref p) (upd H' p (.lst vs)))
section
variable {K : PySem.W.Frag} {W : WX} {σ : L2.St} {H : Hp} {as : AS} {ρ : DE} {h : DH} {α : Type}
theorem tOf.mono {m : EM D} {Q Q' : VK} (t : tOf K W m σ H Q) (hq : ∀ v H', Q v H' → Q' v H') : tOf K W m σ H Q' := by
  obtain ⟨as, ρ, h, R, w⟩ := t
  exact ⟨as, ρ, h, R, wpR_mono w fun as' H' d h' _ _ p v r => hq v H' (p v r)⟩
theorem then_E {m : EM D} {k : D → DH → Res α} {P : AS → Hp → α → DH → Prop} (R : RS K σ H as ρ h) (w : wpR K (fun c x H' => W c x σ H') as H ((m ρ h).bind k) P) {Q : VK}
    (hq : ∀ v H1 as1 h1 d, Stp as H as1 H1 → RS K σ H1 as1 ρ h1 → Rp K H1 as1 v d → wpR K (fun c x H' => W c x σ H') as1 H1 (k d h1) P → Q v H1) : tOf K W m σ H Q :=
  ⟨as, ρ, h, R, wpR_mono (wpR_bind w) fun as1 H1 d h1 s R1 w1 v r => hq v H1 as1 h1 d s (R.step s R1) r w1⟩
theorem then_L {m : EM (List D)} {k : List D → DH → Res α} {P : AS → Hp → α → DH → Prop} (R : RS K σ H as ρ h) (w : wpR K (fun c x H' => W c x σ H') as H ((m ρ h).bind k) P) {Q : VK}
    (hq : ∀ p vs H1 as1 h1 ds, Stp as H as1 H1 → RS K σ H1 as1 ρ h1 → H1 p = none → RpL K H1 as1 vs ds → wpR K (fun c x H' => W c x σ H') as1 H1 (k ds h1) P → Q (.ref p) (upd H1 p (.lst vs))) : tOfL K W m σ H Q :=
  ⟨as, ρ, h, R, wpR_mono (wpR_bind w) fun as1 H1 d h1 s R1 w1 p vs hp r => hq p vs H1 as1 h1 d s (R.step s R1) hp r w1⟩
theorem then_T {m : EM Bool} {k : Bool → DH → Res α} {P : AS → Hp → α → DH → Prop} (R : RS K σ H as ρ h) (w : wpR K (fun c x H' => W c x σ H') as H ((m ρ h).bind k) P) {Q : Bool → Hp → Prop}
    (hq : ∀ b H1 as1 h1, Stp as H as1 H1 → RS K σ H1 as1 ρ h1 → wpR K (fun c x H' => W c x σ H') as1 H1 (k b h1) P → Q b H1) : tOfT K W m σ H Q :=
  ⟨as, ρ, h, R, wpR_mono (wpR_bind w) fun as1 H1 d h1 s R1 w1 => hq d H1 as1 h1 s (R.step s R1) w1⟩
theorem then_A {m : EM (List D)} {k : List D → DH → Res α} {P : AS → Hp → α → DH → Prop} (R : RS K σ H as ρ h) (w : wpR K (fun c x H' => W c x σ H') as H ((m ρ h).bind k) P) {Q : List V → Hp → Prop}
    (hq : ∀ vs H1 as1 h1 ds, Stp as H as1 H1 → RS K σ H1 as1 ρ h1 → RpL K H1 as1 vs ds → wpR K (fun c x H' => W c x σ H') as1 H1 (k ds h1) P → Q vs H1) : tOfA K W m σ H Q :=
  ⟨as, ρ, h, R, wpR_mono (wpR_bind w) fun as1 H1 d h1 s R1 w1 vs r => hq vs H1 as1 h1 d s (R.step s R1) r w1⟩
end
/-! ### growing, writing -/
section
variable {K : PySem.W.Frag} {H : Hp} {as : AS} {h : DH} {p : Addr} {o : HO}
theorem upd_keep (hp : H p = none) {a : Addr} {u : HO} (e : H a = some u) : upd H p o a = some u := by rw [upd_ne (ne_of_none e hp)]; exact e
theorem RH.no (R : RH K H as h) (hp : H p = none) : as.no p := ⟨R.not_none hp, fun m => by
  obtain ⟨⟨o, e⟩, _⟩ := R.bnd p m
  rw [hp] at e
  cases e⟩
theorem Stp.grow (hp : H p = none) : Stp as H as (upd H p o) := ⟨⟨[], by simp⟩, rfl, fun a u e n => ⟨upd_keep hp e, n⟩⟩
theorem Tr.grow (hp : H p = none) : Tr K H as (upd H p o) as := ⟨⟨[], by simp⟩, fun a vs r => upd_keep hp r, fun a u e n => ⟨upd_keep hp e, n⟩⟩
theorem RH.grow (R : RH K H as h) (hp : H p = none) : RH K (upd H p o) as h := R.tr (Tr.grow hp) rfl (fun a m => upd_ne fun z => R.not_none (z ▸ hp) m) fun b m => let ⟨⟨o, e⟩, n⟩ := R.bnd b m; ⟨⟨o, upd_keep hp e⟩, n⟩
/-- a new object becomes a cell -/
theorem Stp.add (hp : H p = none) : Stp as H (as.add p) (upd H p o) := ⟨⟨[p], rfl⟩, rfl, fun a u e n => ⟨upd_keep hp e, fun m => by
  rcases List.mem_append.mp m with m | m
  · exact n m
  · simp at m
    exact ne_of_none e hp m⟩⟩
theorem Tr.add (hp : H p = none) : Tr K H as (upd H p o) (as.add p) := ⟨⟨[p], rfl⟩, fun a vs r => upd_keep hp r, fun a u e n => ⟨upd_keep hp e, fun m => by
  rcases List.mem_append.mp m with m | m
  · exact n.1 m
  · simp at m
    exact ne_of_none e hp m, n.2⟩⟩
theorem RH.add {c : Cell} (R : RH K H as h) (hp : H p = none) (rc : RC K (upd H p o) (as.add p) c p) : RH K (upd H p o) (as.add p) (h ++ [c]) := by
  have np : p ∉ as.l := R.not_none hp
  refine ⟨by simp [AS.add, R.len], ?_, fun n c' a hc ha => ?_, fun b m => let ⟨⟨o, e⟩, n⟩ := R.bnd b m; ⟨⟨o, upd_keep hp e⟩, fun z => (List.mem_append.mp z).elim n fun z => by
    simp at z
    exact ne_of_none e hp z⟩⟩
  · show (as.l ++ [p]).Nodup
    rw [List.nodup_append]
    refine ⟨R.nd, by simp, fun a ha b hb => ?_⟩
    simp at hb
    subst hb
    exact fun z => np (z ▸ ha)
  · have ha : (as.l ++ [p])[n]? = some a := ha
    by_cases hn : n < h.length
    · rw [List.getElem?_append_left hn] at hc
      rw [List.getElem?_append_left (by rw [R.len]; exact hn)] at ha
      exact (R.cell n c' a hc ha).tr (Tr.add hp) (upd_ne fun z => np (z ▸ List.mem_of_getElem? ha))
    · have hn' : h.length ≤ n := Nat.le_of_not_lt hn
      rw [List.getElem?_append_right hn'] at hc
      rw [List.getElem?_append_right (by rw [R.len]; exact hn')] at ha
      have z : n - h.length = 0 := by
        have := (List.getElem?_eq_some_iff.mp hc).1
        simp at this
        omega
      rw [z] at hc
      rw [R.len, z] at ha
      simp at hc ha
      subst hc ha
      exact rc
theorem add_get (R : RH K H as h) : (as.add p).l[h.length]? = some p := by
  show (as.l ++ [p])[h.length]? = some p
  rw [List.getElem?_append_right (by rw [R.len]; exact Nat.le_refl _), R.len]
  simp
/-- a cell's object is replaced -/
theorem Stp.wr (m : p ∈ as.l) : Stp as H as (upd H p o) := ⟨⟨[], by simp⟩, rfl, fun a u e n => ⟨by rw [upd_ne (fun z => n (by rw [z]; exact m))]; exact e, n⟩⟩
theorem RH.wr {n : Nat} {c : Cell} (R : RH K H as h) (hp : as.l[n]? = some p) (rc : RC K (upd H p o) as c p) : RH K (upd H p o) as (h.set n c) := by
  have m : p ∈ as.l := List.mem_of_getElem? hp
  refine ⟨by simp [R.len], R.nd, fun i c' a hc ha => ?_, fun b m => ?_⟩
  case refine_2 =>
    by_cases hb : b = p
    · exact ⟨⟨_, by rw [hb]; exact upd_same⟩, (R.bnd b m).2⟩
    · rw [upd_ne hb]; exact R.bnd b m
  by_cases hi : n = i
  · subst hi
    have hl : n < h.length := by rw [← R.len]; exact (List.getElem?_eq_some_iff.mp hp).1
    rw [List.getElem?_set_self hl] at hc
    cases hc
    rw [hp] at ha
    cases ha
    exact rc
  · rw [List.getElem?_set_ne hi] at hc
    have ne : a ≠ p := fun z => by
      subst z
      obtain ⟨l1, e1⟩ := List.getElem?_eq_some_iff.mp hp
      obtain ⟨l2, e2⟩ := List.getElem?_eq_some_iff.mp ha
      exact hi ((List.getElem_inj R.nd).mp (e1.trans e2.symm))
    exact (R.cell i c' a hc ha).tr ((Stp.wr m).tr R) (upd_ne ne)
end
end DL


/-! DL: the rules of expressions. -/
namespace DL
open PySem L2

theorem PE.imp {X : Cx} {e : Expr} {t t' : TE} (h : PE X e t) (hi : ∀ σ H Q, t' σ H Q → t σ H Q) : PE X e t' := ⟨fun pins s σ H Q I q => h.run pins s σ H Q I (hi σ H Q q)⟩
theorem PT.imp {X : Cx} {e : Expr} {t t' : TT} (h : PT X e t) (hi : ∀ σ H Q, t' σ H Q → t σ H Q) : PT X e t' := ⟨fun pins s σ H Q I q => h.run pins s σ H Q I (hi σ H Q q)⟩
theorem PW.imp {X : Cx} {e : Expr} {t t' : TT} (h : PW X e t) (hi : ∀ σ H Q, t' σ H Q → t σ H Q) : PW X e t' := ⟨fun whole pins s σ H Q I q => h.run whole pins s σ H Q I (hi σ H Q q)⟩
theorem PA.imp {X : Cx} {es : List Expr} {t t' : TA} (h : PA X es t) (hi : ∀ σ H Q, t' σ H Q → t σ H Q) : PA X es t' := ⟨fun pos pins s σ H Q I q => h.run pos pins s σ H Q I (hi σ H Q q)⟩
theorem PO.imp {X : Cx} {e : Option Expr} {t t' : TO} (h : PO X e t) (hi : ∀ σ H Q, t' σ H Q → t σ H Q) : PO X e t' := ⟨fun pins s σ H Q I q => h.run pins s σ H Q I (hi σ H Q q)⟩
theorem PS.imp {X : Cx} {e : Stmt} {t t' : TS} (h : PS X e t) (hi : ∀ D σ H, t' D σ H → t D σ H) : PS X e t' := ⟨fun pins s σ H D I q => h.run pins s σ H D I (hi D σ H q)⟩
theorem PSs.imp {X : Cx} {e : List Stmt} {t t' : TS} (h : PSs X e t) (hi : ∀ D σ H, t' D σ H → t D σ H) : PSs X e t' := ⟨fun pins s σ H D I q => h.run pins s σ H D I (hi D σ H q)⟩

section
variable (X : Cx) (W : WX)
abbrev JE (e : Expr) (m : EM D) : Prop := PE X e (tOf X.K W m)
abbrev JL (e : Expr) (m : EM (List D)) : Prop := PE X e (tOfL X.K W m)
abbrev JT (e : Expr) (m : EM Bool) : Prop := PT X e (tOfT X.K W m)
abbrev JW (e : Expr) (m : EM Bool) : Prop := PW X e (tOfT X.K W m)
abbrev JA (es : List Expr) (m : EM (List D)) : Prop := PA X es (tOfA X.K W m)
end
/-- an option's value, or nothing is told -/
def orBad {α : Type} (o : Option α) (h : DH) : Res α := match o with | some a => .ok a h | none => .bad
@[simp] theorem orBad_some {α : Type} (a : α) (h : DH) : orBad (some a) h = .ok a h := rfl
@[simp] theorem orBad_none {α : Type} (h : DH) : orBad (none : Option α) h = .bad := rfl

section
variable {X : Cx} {W : WX} {K : PySem.W.Frag} {σ : L2.St} {H : Hp} {Q : VK}
/-! ### names, constants -/
def eVar (i : Nat) : EM D := fun ρ h => match ρ[i]? with | some (some d) => .ok d h | _ => .bad
theorem je_var {i : Nat} {e : Expr} (h : PE X e (tVar i)) : JE X W e (eVar i) := by
  refine PE.imp h fun σ H Q ⟨as, ρ, h, R, w⟩ => ?_
  unfold eVar at w
  split at w
  · rename_i d hd
    obtain ⟨v, hv, r⟩ := R.e.get i d hd
    exact ⟨v, hv, w as H (Stp.refl _ _) R.h v r⟩
  · exact w.elim
def eC (d : D) : EM D := fun _ h => .ok d h
theorem je_c {e : Expr} {v : V} {d : D} (h : PE X e (tC v)) (r : ∀ H as, Rp X.K H as v d) : JE X W e (eC d) := by
  refine PE.imp h fun σ H Q ⟨as, ρ, h, R, w⟩ => ?_
  exact w as H (Stp.refl _ _) R.h v (r _ _)
theorem je_int {i j pos} : JE X W (.Constant (.int i) j pos) (eC (.int i)) := je_c pe_int fun _ _ => .int i
theorem je_bl {b j pos} : JE X W (.Constant (.bool b) j pos) (eC (.bl b)) := je_c pe_bl fun _ _ => .bl b
theorem je_non {j pos} : JE X W (.Constant .none j pos) (eC .non) := je_c pe_non fun _ _ => .non
theorem je_str {x j pos} : JE X W (.Constant (.str x) j pos) (eC (.str x)) := je_c pe_str fun _ _ => .str x

/-! ### two operands -/
def eBin (f : D → D → DH → Option D) (ma mb : EM D) : EM D := fun ρ h => (ma ρ h).bind fun x h1 => (mb ρ h1).bind fun y h2 => orBad (f x y h2) h2
def rD (K : PySem.W.Frag) (f : D → D → DH → Option D) : R2 := fun v u H Q => ∃ as h x y d, RH K H as h ∧ Rp K H as v x ∧ Rp K H as u y ∧ f x y h = some d ∧ ∀ z H', Stp as H as H' → RH K H' as h → Rp K H' as z d → Q z H'
theorem bin_imp {f : D → D → DH → Option D} {ma mb : EM D} (t : tOf K W (eBin f ma mb) σ H Q) : tOp (rD K f) (tOf K W ma) (tOf K W mb) σ H Q := by
  obtain ⟨as, ρ, h, R, w⟩ := t
  refine then_E R w fun v H1 as1 h1 x s1 R1 r1 w1 => ?_
  refine then_E R1 w1 fun u H2 as2 h2 y s2 R2 r2 w2 => ?_
  cases e : f x y h2 with
  | none => rw [e] at w2; exact w2.elim
  | some d => rw [e] at w2; exact ⟨as2, h2, x, y, d, R2.h, Rp.step R1.h s2 x r1, r2, e, fun z H' s' R' r' => w2 as2 H' s' R' z r'⟩
abbrev DOp (X : Cx) (fo : Value → Value → Sem Value) (f : D → D → DH → Option D) : Prop := OpR X fo (rD X.K f)
theorem DOp.mk' {fo : Value → Value → Sem Value} {f : D → D → DH → Option D} {r : R2} (ho : OpR X fo r)
    (hi : ∀ v u H (Q : VK) as h x y d, RH X.K H as h → Rp X.K H as v x → Rp X.K H as u y → f x y h = some d → (∀ z H', Stp as H as H' → RH X.K H' as h → Rp X.K H' as z d → Q z H') → r v u H Q) : DOp X fo f :=
  fun pins s σ H x y v u Q I rx ry ⟨as, h, dx, dy, d, R, r1, r2, e, q⟩ => ho pins s σ H x y v u Q I rx ry (hi _ _ _ _ _ _ _ _ _ R r1 r2 e q)
theorem je_bin {a b : Expr} {op : Operator} {pos : Pos} {f : D → D → DH → Option D} {ma mb : EM D} (ho : DOp X (binaryOp op) f) (ha : JE X W a ma) (hb : JE X W b mb) : JE X W (.BinOp a op b pos) (eBin f ma mb) :=
  PE.imp (pe_op ho ha hb) fun _ _ _ => bin_imp
theorem je_cmp {a b : Expr} {op : CmpOp} {pos : Pos} {f : D → D → DH → Option D} {ma mb : EM D} (ho : DOp X (compareOp op) f) (ha : JE X W a ma) (hb : JE X W b mb) (hm : behindInMarks op b = false) : JE X W (.Compare a [op] [b] pos) (eBin f ma mb) :=
  PE.imp (pe_cmpR ho ha hb hm) fun _ _ _ => bin_imp
/-- a bool as a test -/
def tBl (m : EM D) : EM Bool := fun ρ h => (m ρ h).bind fun d h1 => match d with | .bl b => .ok b h1 | _ => .bad
theorem bl_imp {m : EM D} {Q : Bool → Hp → Prop} (t : tOfT K W (tBl m) σ H Q) : tOf K W m σ H (fun v H' => ∃ k, v = .bl k ∧ Q k H') := by
  obtain ⟨as, ρ, h, R, w⟩ := t
  refine then_E R w fun v H1 as1 h1 x s1 R1 r1 w1 => ?_
  cases r1 with
  | bl b => exact ⟨b, rfl, w1 as1 H1 (Stp.refl _ _) R1.h⟩
  | _ => exact False.elim w1
theorem jt_cmp {a b : Expr} {op : CmpOp} {pos : Pos} {f : D → D → DH → Option D} {ma mb : EM D} (ho : DOp X (compareOp op) f) (ha : JE X W a ma) (hb : JE X W b mb) (hm : behindInMarks op b = false) : JT X W (.Compare a [op] [b] pos) (tBl (eBin f ma mb)) :=
  PT.imp (pt_cmpR ho ha hb hm) fun _ _ _ t => bin_imp (bl_imp t)

/-! ### operators -/
def fI (g : Int → Int → Option D) : D → D → DH → Option D := fun x y _ => match x, y with | .int i, .int j => g i j | _, _ => none
theorem fI_some {g : Int → Int → Option D} {x y d : D} {h : DH} (e : fI g x y h = some d) : ∃ i j, x = .int i ∧ y = .int j ∧ g i j = some d := by
  unfold fI at e
  split at e
  · exact ⟨_, _, rfl, rfl, e⟩
  · cases e
theorem rp_int {as : AS} {v : V} {i : Int} (r : Rp K H as v (.int i)) : v = .int i := by cases r; rfl
/-- a rule of ints whose condition and outcome are g's -/
theorem dop_I {fo : Value → Value → Sem Value} {C : Int → Int → Prop} {gv : Int → Int → V} {g : Int → Int → Option D} (ho : OpR X fo (rI C gv))
    (hg : ∀ i j d, g i j = some d → C i j ∧ ∀ H as, Rp X.K H as (gv i j) d) : DOp X fo (fI g) := by
  refine DOp.mk' ho fun v u H Q as h x y d R r1 r2 e q => ?_
  obtain ⟨i, j, rfl, rfl, e⟩ := fI_some e
  obtain ⟨c, r⟩ := hg i j d e
  exact ⟨i, j, rp_int r1, rp_int r2, c, q _ _ (Stp.refl _ _) R (r _ _)⟩
theorem dop_I0 {fo : Value → Value → Sem Value} {gv : Int → Int → V} {g : Int → Int → Option D} (ho : OpR X fo (rI0 gv))
    (hg : ∀ i j d, g i j = some d → ∀ H as, Rp X.K H as (gv i j) d) : DOp X fo (fI g) := by
  refine DOp.mk' ho fun v u H Q as h x y d R r1 r2 e q => ?_
  obtain ⟨i, j, rfl, rfl, e⟩ := fI_some e
  exact ⟨i, j, rp_int r1, rp_int r2, q _ _ (Stp.refl _ _) R (hg i j d e _ _)⟩
def gAdd (i j : Int) : Option D := some (.int (i + j))
def gSub (i j : Int) : Option D := some (.int (i - j))
def gMul (i j : Int) : Option D := if (-(2 ^ 64) < i ∧ i < 2 ^ 64) ∨ (-(2 ^ 64) < j ∧ j < 2 ^ 64) then some (.int (i * j)) else none
def gDiv (i j : Int) : Option D := if 0 < j ∧ j < 1073741824 then some (.int (i / j)) else none
def gMod (i j : Int) : Option D := if 0 < j then some (.int (i % j)) else none
def gPow (i j : Int) : Option D := if 0 ≤ j ∧ j ≤ 1000000 ∧ i.natAbs < 2 ^ 64 then some (.int (i ^ j.toNat)) else none
def gShl (i j : Int) : Option D := if 0 ≤ j ∧ j ≤ 1000000 ∧ i.natAbs < 2 ^ 64 then some (.int (i * 2 ^ j.toNat)) else none
def gShr (i j : Int) : Option D := if 0 ≤ j then some (.int (i / 2 ^ j.toNat)) else none
def gAnd (i j : Int) : Option D := some (.int (Builtin.bitAnd i j))
def gOr (i j : Int) : Option D := some (.int (Builtin.bitOr i j))
def gXor (i j : Int) : Option D := some (.int (Builtin.bitXor i j))
def gLt (i j : Int) : Option D := some (.bl (decide (i < j)))
def gLe (i j : Int) : Option D := some (.bl (decide (i ≤ j)))
def gGt (i j : Int) : Option D := some (.bl (decide (j < i)))
def gGe (i j : Int) : Option D := some (.bl (decide (j ≤ i)))
theorem ite_some {α : Type} {c : Prop} [Decidable c] {a b : α} (e : (if c then some a else none) = some b) : c ∧ a = b := by
  by_cases h : c
  · rw [if_pos h] at e; exact ⟨h, Option.some.inj e⟩
  · rw [if_neg h] at e; cases e
theorem do_add : DOp X (binaryOp .Add) (fI gAdd) := dop_I0 op_add fun i j d e H as => by cases e; exact .int _
theorem do_sub : DOp X (binaryOp .Sub) (fI gSub) := dop_I0 op_sub fun i j d e H as => by cases e; exact .int _
theorem do_mul : DOp X (binaryOp .Mult) (fI gMul) := dop_I op_mul fun i j d e => by
  obtain ⟨c, rfl⟩ := ite_some e
  exact ⟨c, fun _ _ => .int _⟩
theorem do_div : DOp X (binaryOp .FloorDiv) (fI gDiv) := dop_I op_fdiv fun i j d e => by
  obtain ⟨c, rfl⟩ := ite_some e
  exact ⟨c, fun _ _ => .int _⟩
theorem do_mod : DOp X (binaryOp .Mod) (fI gMod) := dop_I op_mod fun i j d e => by
  obtain ⟨c, rfl⟩ := ite_some e
  exact ⟨c, fun _ _ => .int _⟩
theorem do_pow : DOp X (binaryOp .Pow) (fI gPow) := dop_I op_pow fun i j d e => by
  obtain ⟨c, rfl⟩ := ite_some e
  exact ⟨c, fun _ _ => .int _⟩
theorem do_shl : DOp X (binaryOp .LShift) (fI gShl) := dop_I op_shl fun i j d e => by
  obtain ⟨c, rfl⟩ := ite_some e
  exact ⟨c, fun _ _ => .int _⟩
theorem do_shr : DOp X (binaryOp .RShift) (fI gShr) := dop_I op_shr fun i j d e => by
  obtain ⟨c, rfl⟩ := ite_some e
  exact ⟨c, fun _ _ => .int _⟩
theorem do_and : DOp X (binaryOp .BitAnd) (fI gAnd) := dop_I0 op_and fun i j d e H as => by cases e; exact .int _
theorem do_or : DOp X (binaryOp .BitOr) (fI gOr) := dop_I0 op_or fun i j d e H as => by cases e; exact .int _
theorem do_xor : DOp X (binaryOp .BitXor) (fI gXor) := dop_I0 op_xor fun i j d e H as => by cases e; exact .int _
theorem do_lt : DOp X (compareOp .Lt) (fI gLt) := dop_I0 op_lt fun i j d e H as => by cases e; exact .bl _
theorem do_le : DOp X (compareOp .LtE) (fI gLe) := dop_I0 op_le fun i j d e H as => by cases e; exact .bl _
theorem do_gt : DOp X (compareOp .Gt) (fI gGt) := dop_I0 op_gt fun i j d e H as => by cases e; exact .bl _
theorem do_ge : DOp X (compareOp .GtE) (fI gGe) := dop_I0 op_ge fun i j d e H as => by cases e; exact .bl _
/-- is None -/
def dIsN : D → D → DH → Option D := fun x y _ => match y with | .non => some (.bl (match x with | .non => true | _ => false)) | _ => none
def dNotN : D → D → DH → Option D := fun x y _ => match y with | .non => some (.bl (match x with | .non => false | _ => true)) | _ => none
theorem do_isN : DOp X (compareOp .Is) dIsN := by
  refine DOp.mk' op_isN fun v u H Q as h x y d R r1 r2 e q => ?_
  unfold dIsN at e
  split at e
  · cases r2
    cases e
    refine ⟨rfl, ?_⟩
    cases r1 <;> exact q _ _ (Stp.refl _ _) R (.bl _)
  · cases e
theorem do_notN : DOp X (compareOp .IsNot) dNotN := by
  refine DOp.mk' op_notN fun v u H Q as h x y d R r1 r2 e q => ?_
  unfold dNotN at e
  split at e
  · cases r2
    cases e
    refine ⟨rfl, ?_⟩
    cases r1 <;> exact q _ _ (Stp.refl _ _) R (.bl _)
  · cases e

/-! ### sequences -/
/-- the items of a list -/
def lstD (h : DH) : D → Option (List D)
  | .lst ds => some ds
  | .fz ds => some ds
  | .ref n => match h[n]? with | some (.lst ds) => some ds | _ => none
  | _ => none
/-- of a tuple -/
def tupD : D → Option (List D)
  | .tup ds => some ds
  | .kt ds => some ds
  | _ => none
theorem sqL_none {a : Addr} {vs : List V} (h : SqL K noH a vs) : SqL K H a vs := by
  rcases h with (h | ⟨_, h⟩) | h
  · cases h
  · cases h
  · exact .inr h
theorem sqT_none {a : Addr} {vs : List V} (h : SqT K noH a vs) : SqT K H a vs := by
  rcases h with (h | ⟨_, h⟩) | h
  · cases h
  · cases h
  · exact .inr h
theorem lstD_rd {as : AS} {h : DH} {v : V} {d : D} {ds : List D} (R : RH K H as h) (r : Rp K H as v d) (e : lstD h d = some ds) : ∃ a vs, v = .ref a ∧ SqL K H a vs ∧ RpL K H as vs ds := by
  cases r with
  | @lst a vs ds' q n rl => cases e; exact ⟨a, vs, rfl, .inl (.inl q), rl⟩
  | @fz a vs ds' q rl =>
    cases e
    rcases q with ⟨q, _⟩ | q
    · exact ⟨a, vs, rfl, .inl q, rl⟩
    · exact ⟨a, vs, rfl, sqL_none q, rl⟩
  | @ref n a q =>
    have hn : ∃ c, h[n]? = some c := by
      have := (List.getElem?_eq_some_iff.mp q).1
      exact ⟨h[n]'(by rw [← R.len]; exact this), List.getElem?_eq_getElem _⟩
    obtain ⟨c, hc⟩ := hn
    simp only [lstD, hc] at e
    cases c with
    | lst ds' =>
      cases e
      obtain ⟨vs, h1, h2⟩ := R.cell n _ a hc q
      exact ⟨a, vs, rfl, .inl (.inl h1), h2⟩
    | dct _ => cases e
    | ins _ _ => cases e
  | _ => cases e
theorem tupD_rd {as : AS} {v : V} {d : D} {ds : List D} (r : Rp K H as v d) (e : tupD d = some ds) : ∃ a vs, v = .ref a ∧ SqT K H a vs ∧ RpL K H as vs ds := by
  cases r with
  | @tup a vs ds' q rl => cases e; exact ⟨a, vs, rfl, .inl (.inl q), rl⟩
  | @kt a vs ds' q rl => cases e; exact ⟨a, vs, rfl, sqT_none q, rl⟩
  | _ => cases e
/-- the items of either -/
def seqD (h : DH) (d : D) : Option (List D) := match lstD h d with | some ds => some ds | none => tupD d
theorem seqD_rd {as : AS} {h : DH} {v : V} {d : D} {ds : List D} (R : RH K H as h) (r : Rp K H as v d) (e : seqD h d = some ds) : ∃ a vs, v = .ref a ∧ (SqL K H a vs ∨ SqT K H a vs) ∧ RpL K H as vs ds := by
  unfold seqD at e
  split at e
  · rename_i ds' q
    cases e
    obtain ⟨a, vs, h1, h2, h3⟩ := lstD_rd R r q
    exact ⟨a, vs, h1, .inl h2, h3⟩
  · obtain ⟨a, vs, h1, h2, h3⟩ := tupD_rd r e
    exact ⟨a, vs, h1, .inr h2, h3⟩
theorem atI_rp {as : AS} {vs : List V} {ds : List D} {i : Int} {d : D} (r : RpL K H as vs ds) (e : atI ds i = some d) : ∃ v, atI vs i = some v ∧ Rp K H as v d := by
  unfold atI at e ⊢
  rw [r.length]
  cases q : ixN ds.length i with
  | none => rw [q] at e; cases e
  | some j =>
    rw [q] at e
    obtain ⟨v, h1, h2⟩ := r.get (i := j) e
    exact ⟨v, h1, h2⟩
def dIx : D → D → DH → Option D := fun x y h => match y with | .int i => (match seqD h x with | some ds => atI ds i | none => none) | _ => none
theorem IxR.or {r r' : R2} (h : IxR X r) (h' : IxR X r') : IxR X (fun x y H Q => r x y H Q ∨ r' x y H Q) := by
  intro value slice pins s σ H x y v u Q I rx ry q hs
  rcases q with q | q
  · exact h value slice pins s σ H x y v u Q I rx ry q hs
  · exact h' value slice pins s σ H x y v u Q I rx ry q hs
theorem ix_D : IxR X (rD X.K dIx) := by
  intro value slice pins s σ H x y v u Q I rx ry ⟨as, h, dx, dy, d, R, r1, r2, e, q⟩ hs
  refine (IxR.or ix_list ix_tup) value slice pins s σ H x y v u Q I rx ry ?_ hs
  unfold dIx at e
  split at e
  · rename_i i
    split at e
    · rename_i ds hd
      obtain ⟨a, vs, rfl, hq, rl⟩ := seqD_rd R r1 hd
      obtain ⟨z, hz, rz⟩ := atI_rp rl e
      cases r2
      rcases hq with hq | hq
      · exact .inl ⟨a, vs, i, z, rfl, rfl, hq, hz, q _ _ (Stp.refl _ _) R rz⟩
      · exact .inr ⟨a, vs, i, z, rfl, rfl, hq, hz, q _ _ (Stp.refl _ _) R rz⟩
    · cases e
  · cases e
theorem je_ix {a b : Expr} {pos : Pos} {ma mb : EM D} (ha : JE X W a ma) (hb : JE X W b mb) (hs : PlainIx b) : JE X W (.Subscript a b pos) (eBin dIx ma mb) :=
  PE.imp (pe_ix ix_D ha hb hs) fun _ _ _ => bin_imp
/-- t + u, tuples -/
def dCatT : D → D → DH → Option D := fun x y _ => match x, y with | .tup a, .tup b => if a.length + b.length ≤ sizeLine then some (.tup (a ++ b)) else none | _, _ => none
theorem do_catT : DOp X (binaryOp .Add) dCatT := by
  refine DOp.mk' op_catA fun v u H Q as h x y d R r1 r2 e q => ?_
  unfold dCatT at e
  split at e
  · rename_i da db
    obtain ⟨c, rfl⟩ := ite_some e
    cases r1 with
    | @tup a vs _ qa ra =>
      cases r2 with
      | @tup b us _ qb rb =>
        refine ⟨a, b, vs, us, rfl, rfl, .inl (.inl qa), .inl (.inl qb), by rw [ra.length, rb.length]; exact c, fun z => ?_, fun _ z => ?_, fun _ _ p hp => ?_⟩
        · subst z
          cases da with
          | nil => exact q _ _ (Stp.refl _ _) R (.tup qb rb)
          | cons _ _ => cases ra
        · subst z
          cases db with
          | nil => exact q _ _ (Stp.refl _ _) R (.tup qa (by rw [List.append_nil]; exact ra))
          | cons _ _ => cases rb
        · exact q _ _ (Stp.grow hp) (R.grow hp) (.tup upd_same ((ra.append rb).tr (Tr.grow hp)))
  · cases e

/-! ### calls of built-in functions -/
def rDC (K : PySem.W.Frag) (g : List D → DH → Option D) : List V → Hp → VK → Prop := fun vs H Q => ∃ as h ds d, RH K H as h ∧ RpL K H as vs ds ∧ g ds h = some d ∧ ∀ z H', Stp as H as H' → RH K H' as h → Rp K H' as z d → Q z H'
def rDL (K : PySem.W.Frag) (g : List D → DH → Option (List D)) : List V → Hp → VK → Prop := fun vs H Q => ∃ as h ds es, RH K H as h ∧ RpL K H as vs ds ∧ g ds h = some es ∧ ∀ p us, H p = none → RpL K H as us es → Q (.ref p) (upd H p (.lst us))
def eCB {α : Type} (g : List D → DH → Option α) (m : EM (List D)) : EM α := fun ρ h => (m ρ h).bind fun ds h1 => orBad (g ds h1) h1
theorem cb_imp {g : List D → DH → Option D} {m : EM (List D)} (t : tOf K W (eCB g m) σ H Q) : tCB (rDC K g) (tOfA K W m) σ H Q := by
  obtain ⟨as, ρ, h, R, w⟩ := t
  refine then_A R w fun vs H1 as1 h1 ds s1 R1 r1 w1 => ?_
  cases e : g ds h1 with
  | none => rw [e] at w1; exact w1.elim
  | some d => rw [e] at w1; exact ⟨as1, h1, ds, d, R1.h, r1, e, fun z H' s' R' r' => w1 as1 H' s' R' z r'⟩
theorem cbl_imp {g : List D → DH → Option (List D)} {m : EM (List D)} (t : tOfL K W (eCB g m) σ H Q) : tCB (rDL K g) (tOfA K W m) σ H Q := by
  obtain ⟨as, ρ, h, R, w⟩ := t
  refine then_A R w fun vs H1 as1 h1 ds s1 R1 r1 w1 => ?_
  cases e : g ds h1 with
  | none => rw [e] at w1; exact w1.elim
  | some d => rw [e] at w1; exact ⟨as1, h1, ds, d, R1.h, r1, e, fun p us hp ru => w1 as1 H1 (Stp.refl _ _) R1.h p us hp ru⟩
abbrev DCall (X : Cx) (f : Value) (g : List D → DH → Option D) : Prop := CallR X f (rDC X.K g)
abbrev DCallL (X : Cx) (f : Value) (g : List D → DH → Option (List D)) : Prop := CallR X f (rDL X.K g)
theorem DCall.mk' {f : Value} {g : List D → DH → Option D} {r : List V → Hp → VK → Prop} (ho : CallR X f r)
    (hi : ∀ vs H (Q : VK) as h ds d, RH X.K H as h → RpL X.K H as vs ds → g ds h = some d → (∀ z H', Stp as H as H' → RH X.K H' as h → Rp X.K H' as z d → Q z H') → r vs H Q) : DCall X f g :=
  fun pins s σ H vs us Q I rv ⟨as, h, ds, d, R, r1, e, q⟩ => ho pins s σ H vs us Q I rv (hi _ _ _ _ _ _ _ R r1 e q)
theorem DCallL.mk' {f : Value} {g : List D → DH → Option (List D)} {r : List V → Hp → VK → Prop} (ho : CallR X f r)
    (hi : ∀ vs H (Q : VK) as h ds es, RH X.K H as h → RpL X.K H as vs ds → g ds h = some es → (∀ p us, H p = none → RpL X.K H as us es → Q (.ref p) (upd H p (.lst us))) → r vs H Q) : DCallL X f g :=
  fun pins s σ H vs us Q I rv ⟨as, h, ds, d, R, r1, e, q⟩ => ho pins s σ H vs us Q I rv (hi _ _ _ _ _ _ _ R r1 e q)
section
variable {x : Str} {p pos : Pos} {e : Expr} {es : List Expr} {id T : String} {m : EM (List D)}
theorem je_callB {g : List D → DH → Option D} (hc : DCall X (.builtin id) g) (hg : Gl X x) (hm : X.mg x = none) (hv : bootBuiltins x = some (.builtin id)) (ha : JA X W (e :: es) m) (hn : x ≠ "__name__" := by decide) (hdb : (x == ("__debug__" : Str)) = false := by decide)
    (he : starEach (e :: es) X.env = (false, eval e X.env) :: starEach es X.env := by rfl) (hpl : (backTo pos (starEach es X.env)).any (·.1) = false := by rfl) : JE X W (.Call (.Name x p) (e :: es) [] pos) (eCB g m) :=
  PE.imp (pe_callB hc hg hm hv ha hn hdb he hpl) fun _ _ _ => cb_imp
theorem je_callTy {g : List D → DH → Option D} (hc : DCall X (.type T) g) (hg : Gl X x) (hm : X.mg x = none) (hv : bootBuiltins x = some (.type T)) (ha : JA X W (e :: es) m) (hn : x ≠ "__name__" := by decide) (hdb : (x == ("__debug__" : Str)) = false := by decide)
    (he : starEach (e :: es) X.env = (false, eval e X.env) :: starEach es X.env := by rfl) (hpl : (backTo pos (starEach es X.env)).any (·.1) = false := by rfl) : JE X W (.Call (.Name x p) (e :: es) [] pos) (eCB g m) :=
  PE.imp (pe_callTy hc hg hm hv ha hn hdb he hpl) fun _ _ _ => cb_imp
theorem jl_callB {g : List D → DH → Option (List D)} (hc : DCallL X (.builtin id) g) (hg : Gl X x) (hm : X.mg x = none) (hv : bootBuiltins x = some (.builtin id)) (ha : JA X W (e :: es) m) (hn : x ≠ "__name__" := by decide) (hdb : (x == ("__debug__" : Str)) = false := by decide)
    (he : starEach (e :: es) X.env = (false, eval e X.env) :: starEach es X.env := by rfl) (hpl : (backTo pos (starEach es X.env)).any (·.1) = false := by rfl) : JL X W (.Call (.Name x p) (e :: es) [] pos) (eCB g m) :=
  PE.imp (pe_callB hc hg hm hv ha hn hdb he hpl) fun _ _ _ => cbl_imp
theorem jl_callTy {g : List D → DH → Option (List D)} (hc : DCallL X (.type T) g) (hg : Gl X x) (hm : X.mg x = none) (hv : bootBuiltins x = some (.type T)) (ha : JA X W (e :: es) m) (hn : x ≠ "__name__" := by decide) (hdb : (x == ("__debug__" : Str)) = false := by decide)
    (he : starEach (e :: es) X.env = (false, eval e X.env) :: starEach es X.env := by rfl) (hpl : (backTo pos (starEach es X.env)).any (·.1) = false := by rfl) : JL X W (.Call (.Name x p) (e :: es) [] pos) (eCB g m) :=
  PE.imp (pe_callTy hc hg hm hv ha hn hdb he hpl) fun _ _ _ => cbl_imp
end
/-! argument lists -/
def aNil : EM (List D) := fun _ h => .ok [] h
def aCons (ma : EM D) (mr : EM (List D)) : EM (List D) := fun ρ h => (ma ρ h).bind fun d h1 => (mr ρ h1).bind fun ds h2 => .ok (d :: ds) h2
theorem ja_nil : JA X W [] aNil := PA.imp pa_nil fun σ H Q ⟨as, ρ, h, R, w⟩ => w as H (Stp.refl _ _) R.h [] .nil
theorem ja_cons {e : Expr} {es : List Expr} {ma : EM D} {mr : EM (List D)} (ha : JE X W e ma) (hr : JA X W es mr) (hs : starEach (e :: es) X.env = (false, eval e X.env) :: starEach es X.env := by rfl) : JA X W (e :: es) (aCons ma mr) := by
  refine PA.imp (pa_cons ha hr hs) fun σ H Q ⟨as, ρ, h, R, w⟩ => ?_
  refine then_E R w fun v H1 as1 h1 d s1 R1 r1 w1 => ?_
  refine then_A R1 w1 fun vs H2 as2 h2 ds s2 R2 r2 w2 => ?_
  exact w2 as2 H2 (Stp.refl _ _) R2.h _ (.cons (Rp.step R1.h s2 d r1) r2)
/-! displays -/
def lenOk (m : EM (List D)) : EM (List D) := fun ρ h => (m ρ h).bind fun ds h1 => if ds.length ≤ sizeLine then .ok ds h1 else .bad
def eTup (m : EM (List D)) : EM D := fun ρ h => (m ρ h).bind fun ds h1 => if ds.length ≤ sizeLine then .ok (.tup ds) h1 else .bad
theorem je_tup {es : List Expr} {k pos} {m : EM (List D)} (h : JA X W es m) : JE X W (.Tuple es k pos) (eTup m) := by
  refine PE.imp (pe_tup h) fun σ H Q ⟨as, ρ, h, R, w⟩ => ?_
  refine then_A R w fun vs H1 as1 h1 ds s1 R1 r1 w1 => ?_
  by_cases c : ds.length ≤ sizeLine
  · simp only [if_pos c] at w1
    exact ⟨by rw [r1.length]; exact c, fun p hp => w1 as1 _ (Stp.grow hp) (R1.h.grow hp) _ (.tup upd_same (RpL.tr (Tr.grow hp) ds r1))⟩
  · simp only [if_neg c] at w1
    exact w1.elim
theorem jl_disp {es : List Expr} {pos} {m : EM (List D)} (h : JA X W es m) : JL X W (.List es pos) (lenOk m) := by
  refine PE.imp (pe_lst h) fun σ H Q ⟨as, ρ, h, R, w⟩ => ?_
  refine then_A R w fun vs H1 as1 h1 ds s1 R1 r1 w1 => ?_
  by_cases c : ds.length ≤ sizeLine
  · simp only [if_pos c] at w1
    exact ⟨by rw [r1.length]; exact c, fun p hp => w1 as1 _ (Stp.refl _ _) R1.h p vs hp r1⟩
  · simp only [if_neg c] at w1
    exact w1.elim
/-- a new list that nobody will change -/
def eLst (m : EM (List D)) : EM D := fun ρ h => (m ρ h).bind fun ds h1 => .ok (.lst ds) h1
/-- a new list in a cell -/
def eNew (m : EM (List D)) : EM D := fun ρ h => (m ρ h).bind fun ds h1 => .ok (.ref h1.length) (h1 ++ [.lst ds])
theorem lst_imp {m : EM (List D)} (t : tOf K W (eLst m) σ H Q) : tOfL K W m σ H Q := by
  obtain ⟨as, ρ, h, R, w⟩ := t
  refine then_L R w fun p vs H1 as1 h1 ds s1 R1 hp r1 w1 => ?_
  exact w1 as1 _ (Stp.grow hp) (R1.h.grow hp) _ (.lst upd_same (R1.h.no hp) (RpL.tr (Tr.grow hp) ds r1))
theorem je_lst {e : Expr} {m : EM (List D)} (h : JL X W e m) : JE X W e (eLst m) := PE.imp h fun _ _ _ => lst_imp
theorem new_imp {m : EM (List D)} (t : tOf K W (eNew m) σ H Q) : tOfL K W m σ H Q := by
  obtain ⟨as, ρ, h, R, w⟩ := t
  refine then_L R w fun p vs H1 as1 h1 ds s1 R1 hp r1 w1 => ?_
  have rc : RC K (upd H1 p (.lst vs)) (as1.add p) (.lst ds) p := ⟨vs, upd_same, RpL.tr (Tr.add hp) ds r1⟩
  exact w1 (as1.add p) _ (Stp.add hp) (R1.h.add hp rc) _ (.ref (add_get R1.h))
theorem je_new {e : Expr} {m : EM (List D)} (h : JL X W e m) : JE X W e (eNew m) := PE.imp h fun _ _ _ => new_imp
end
end DL


/-! DL: more rules of expressions. -/
namespace DL
open PySem L2
section
variable {X : Cx} {W : WX} {K : PySem.W.Frag} {σ : L2.St} {H : Hp} {Q : VK}

/-! ### == of data -/
mutual
def toP : D → Option PyData
  | .non => some .none
  | .bl b => some (.bool b)
  | .int i => some (.int i)
  | .str x => some (.str x)
  | .tup ds => (toPL ds).map .tuple
  | .kt ds => (toPL ds).map .tuple
  | .lst ds => (toPL ds).map .list
  | .fz ds => (toPL ds).map .list
  | .ref _ => none
  | .ty _ => none
  | .dct _ _ => none
def toPL : List D → Option (List PyData)
  | [] => some []
  | d :: ds => match toP d with | none => none | some p => (toPL ds).map (p :: ·)
end
mutual
theorem toP_dp {as : AS} : ∀ (d : D) {v : V} {p : PyData}, Rp K H as v d → toP d = some p → Dp K H v p
  | .non, _, _, r, e => by cases r; cases e; exact .non
  | .bl _, _, _, r, e => by cases r; cases e; exact .bl _
  | .int _, _, _, r, e => by cases r; cases e; exact .int _
  | .str _, _, _, r, e => by cases r; cases e; exact .str _
  | .tup ds, _, _, r, e => by
    cases r with
    | tup q rl =>
      simp only [toP, Option.map_eq_some_iff] at e
      obtain ⟨ps, e1, rfl⟩ := e
      exact .tup (.inl (.inl q)) (toPL_dp ds rl e1)
  | .kt ds, _, _, r, e => by
    cases r with
    | kt q rl =>
      simp only [toP, Option.map_eq_some_iff] at e
      obtain ⟨ps, e1, rfl⟩ := e
      exact .tup (sqT_none q) (toPL_dp ds rl e1)
  | .lst ds, _, _, r, e => by
    cases r with
    | lst q n rl =>
      simp only [toP, Option.map_eq_some_iff] at e
      obtain ⟨ps, e1, rfl⟩ := e
      exact .lst (.inl (.inl q)) (toPL_dp ds rl e1)
  | .fz ds, _, _, r, e => by
    cases r with
    | fz q rl =>
      simp only [toP, Option.map_eq_some_iff] at e
      obtain ⟨ps, e1, rfl⟩ := e
      refine .lst ?_ (toPL_dp ds rl e1)
      rcases q with ⟨q, _⟩ | q
      · exact .inl q
      · exact sqL_none q
  | .ref _, _, _, r, e => by cases e
  | .ty _, _, _, r, e => by cases e
  | .dct _ _, _, _, r, e => by cases e
theorem toPL_dp {as : AS} : ∀ (ds : List D) {vs : List V} {ps : List PyData}, RpL K H as vs ds → toPL ds = some ps → DpAll K H vs ps
  | [], _, _, r, e => by cases r; cases e; exact .nil
  | d :: ds, _, _, r, e => by
    cases r with
    | cons a b =>
      simp only [toPL] at e
      cases h1 : toP d with
      | none => rw [h1] at e; cases e
      | some p =>
        rw [h1] at e
        simp only [Option.map_eq_some_iff] at e
        obtain ⟨ps, e2, rfl⟩ := e
        exact .cons (toP_dp d a h1) (toPL_dp ds b e2)
end
/-- a list in a cell is compared by its items -/
def cellP (h : DH) (d : D) : Option PyData := match d with
  | .ref n => (match h[n]? with | some (.lst ds) => (toPL ds).map .list | _ => none)
  | d => toP d
theorem cellP_dp {as : AS} {h : DH} {v : V} {d : D} {p : PyData} (R : RH K H as h) (r : Rp K H as v d) (e : cellP h d = some p) : Dp K H v p := by
  cases d with
  | ref n =>
    cases r with
    | @ref n a q =>
      have hn : ∃ c, h[n]? = some c := by
        have := (List.getElem?_eq_some_iff.mp q).1
        exact ⟨h[n]'(by rw [← R.len]; exact this), List.getElem?_eq_getElem _⟩
      obtain ⟨c, hc⟩ := hn
      simp only [cellP, hc] at e
      cases c with
      | lst ds =>
        simp only [Option.map_eq_some_iff] at e
        obtain ⟨ps, e1, rfl⟩ := e
        obtain ⟨vs, h1, h2⟩ := R.cell n _ a hc q
        exact .lst (.inl (.inl h1)) (toPL_dp ds h2 e1)
      | dct _ => cases e
      | ins _ _ => cases e
  | _ => exact toP_dp _ r e
def eqD (h : DH) (x y : D) : Option Bool := match cellP h x, cellP h y with
  | some p, some q => if SeqAt.shaped p = true ∧ SeqAt.shaped q = true then some (PyData.eqv p q) else none
  | _, _ => none
def dEq : D → D → DH → Option D := fun x y h => (eqD h x y).map .bl
def dNe : D → D → DH → Option D := fun x y h => (eqD h x y).map fun b => .bl (!b)
theorem eqD_some {h : DH} {x y : D} {b : Bool} (e : eqD h x y = some b) : ∃ p q, cellP h x = some p ∧ cellP h y = some q ∧ SeqAt.shaped p = true ∧ SeqAt.shaped q = true ∧ PyData.eqv p q = b := by
  unfold eqD at e
  split at e
  · rename_i p q hp hq
    obtain ⟨⟨c1, c2⟩, e⟩ := ite_some e
    exact ⟨p, q, hp, hq, c1, c2, e⟩
  · cases e
theorem do_eq (hu : X.A.units + 64 < cLine) : DOp X (compareOp .Eq) dEq := by
  refine DOp.mk' (op_eqD hu) fun v u H Q as h x y d R r1 r2 e q => ?_
  simp only [dEq, Option.map_eq_some_iff] at e
  obtain ⟨b, e, rfl⟩ := e
  obtain ⟨p1, p2, h1, h2, s1, s2, rfl⟩ := eqD_some e
  exact ⟨p1, p2, cellP_dp R r1 h1, cellP_dp R r2 h2, s1, s2, q _ _ (Stp.refl _ _) R (.bl _)⟩
theorem do_ne (hu : X.A.units + 64 < cLine) : DOp X (compareOp .NotEq) dNe := by
  refine DOp.mk' (op_neD hu) fun v u H Q as h x y d R r1 r2 e q => ?_
  simp only [dNe, Option.map_eq_some_iff] at e
  obtain ⟨b, e, rfl⟩ := e
  obtain ⟨p1, p2, h1, h2, s1, s2, rfl⟩ := eqD_some e
  exact ⟨p1, p2, cellP_dp R r1 h1, cellP_dp R r2 h2, s1, s2, q _ _ (Stp.refl _ _) R (.bl _)⟩

/-! ### in, flat items -/
def toV : D → Option V
  | .non => some .non
  | .bl b => some (.bl b)
  | .int i => some (.int i)
  | .str x => some (.str x)
  | _ => none
def toVL : List D → Option (List V)
  | [] => some []
  | d :: ds => match toV d with | none => none | some p => (toVL ds).map (p :: ·)
theorem toV_of {as : AS} {v w : V} {d : D} (r : Rp K H as v d) (e : toV d = some w) : v = w ∧ flatV v = true := by
  cases r <;> cases e <;> exact ⟨rfl, rfl⟩
theorem toVL_of {as : AS} : ∀ {ds : List D} {vs ws : List V}, RpL K H as vs ds → toVL ds = some ws → vs = ws ∧ vs.all flatV = true
  | [], _, _, r, e => by cases r; cases e; exact ⟨rfl, rfl⟩
  | d :: ds, _, _, r, e => by
    cases r with
    | cons a b =>
      simp only [toVL] at e
      cases h1 : toV d with
      | none => rw [h1] at e; cases e
      | some p =>
        rw [h1] at e
        simp only [Option.map_eq_some_iff] at e
        obtain ⟨ps, e2, rfl⟩ := e
        obtain ⟨rfl, f1⟩ := toV_of a h1
        obtain ⟨rfl, f2⟩ := toVL_of b e2
        exact ⟨rfl, by rw [List.all_cons, f1, f2]; rfl⟩
def inD (x y : D) (h : DH) : Option Bool := match toV x, seqD h y with
  | some v, some ds => (toVL ds).map fun vs => inV v vs
  | _, _ => none
def dIn : D → D → DH → Option D := fun x y h => (inD x y h).map .bl
def dNotIn : D → D → DH → Option D := fun x y h => (inD x y h).map fun b => .bl (!b)
theorem inD_some {as : AS} {h : DH} {v u : V} {x y : D} {b : Bool} (R : RH K H as h) (r1 : Rp K H as v x) (r2 : Rp K H as u y) (e : inD x y h = some b) :
    ∃ p xs, u = .ref p ∧ (SqL K H p xs ∨ SqT K H p xs) ∧ flatV v = true ∧ xs.all flatV = true ∧ b = inV v xs := by
  unfold inD at e
  split at e
  · rename_i w ds h1 h2
    simp only [Option.map_eq_some_iff] at e
    obtain ⟨vs, h3, rfl⟩ := e
    obtain ⟨a, us, rfl, hq, rl⟩ := seqD_rd R r2 h2
    obtain ⟨rfl, f1⟩ := toV_of r1 h1
    obtain ⟨rfl, f2⟩ := toVL_of rl h3
    exact ⟨a, us, rfl, hq, f1, f2, rfl⟩
  · cases e
theorem do_in : DOp X (compareOp .In) dIn := by
  refine DOp.mk' op_in_seq fun v u H Q as h x y d R r1 r2 e q => ?_
  simp only [dIn, Option.map_eq_some_iff] at e
  obtain ⟨b, e, rfl⟩ := e
  obtain ⟨p, xs, rfl, hq, f1, f2, rfl⟩ := inD_some R r1 r2 e
  exact ⟨p, xs, rfl, hq, f1, f2, q _ _ (Stp.refl _ _) R (.bl _)⟩
theorem do_notIn : DOp X (compareOp .NotIn) dNotIn := by
  refine DOp.mk' op_notIn_seq fun v u H Q as h x y d R r1 r2 e q => ?_
  simp only [dNotIn, Option.map_eq_some_iff] at e
  obtain ⟨b, e, rfl⟩ := e
  obtain ⟨p, xs, rfl, hq, f1, f2, rfl⟩ := inD_some R r1 r2 e
  exact ⟨p, xs, rfl, hq, f1, f2, q _ _ (Stp.refl _ _) R (.bl _)⟩

/-! ### lists made by operators: + and slices -/
/-- a list's items where it is no frozen one -/
def lstM (h : DH) : D → Option (List D)
  | .lst ds => some ds
  | .ref n => match h[n]? with | some (.lst ds) => some ds | _ => none
  | _ => none
theorem lstM_rd {as : AS} {h : DH} {v : V} {d : D} {ds : List D} (R : RH K H as h) (r : Rp K H as v d) (e : lstM h d = some ds) : ∃ a vs, v = .ref a ∧ H a = some (.lst vs) ∧ RpL K H as vs ds := by
  cases r with
  | @lst a vs ds' q n rl => cases e; exact ⟨a, vs, rfl, q, rl⟩
  | @ref n a q =>
    have hn : ∃ c, h[n]? = some c := by
      have := (List.getElem?_eq_some_iff.mp q).1
      exact ⟨h[n]'(by rw [← R.len]; exact this), List.getElem?_eq_getElem _⟩
    obtain ⟨c, hc⟩ := hn
    simp only [lstM, hc] at e
    cases c with
    | lst ds' =>
      cases e
      obtain ⟨vs, h1, h2⟩ := R.cell n _ a hc q
      exact ⟨a, vs, rfl, h1, h2⟩
    | dct _ => cases e
    | ins _ _ => cases e
  | _ => cases e
def eBinL (f : D → D → DH → Option (List D)) (ma mb : EM D) : EM (List D) := fun ρ h => (ma ρ h).bind fun x h1 => (mb ρ h1).bind fun y h2 => orBad (f x y h2) h2
def rDLb (K : PySem.W.Frag) (f : D → D → DH → Option (List D)) : R2 := fun v u H Q => ∃ as h x y es, RH K H as h ∧ Rp K H as v x ∧ Rp K H as u y ∧ f x y h = some es ∧ ∀ p us, H p = none → RpL K H as us es → Q (.ref p) (upd H p (.lst us))
theorem binL_imp {f : D → D → DH → Option (List D)} {ma mb : EM D} (t : tOfL K W (eBinL f ma mb) σ H Q) : tOp (rDLb K f) (tOf K W ma) (tOf K W mb) σ H Q := by
  obtain ⟨as, ρ, h, R, w⟩ := t
  refine then_E R w fun v H1 as1 h1 x s1 R1 r1 w1 => ?_
  refine then_E R1 w1 fun u H2 as2 h2 y s2 R2 r2 w2 => ?_
  cases e : f x y h2 with
  | none => rw [e] at w2; exact w2.elim
  | some d => rw [e] at w2; exact ⟨as2, h2, x, y, d, R2.h, Rp.step R1.h s2 x r1, r2, e, fun p us hp ru => w2 as2 H2 (Stp.refl _ _) R2.h p us hp ru⟩
abbrev DOpL (X : Cx) (fo : Value → Value → Sem Value) (f : D → D → DH → Option (List D)) : Prop := OpR X fo (rDLb X.K f)
theorem jl_bin {a b : Expr} {op : Operator} {pos : Pos} {f : D → D → DH → Option (List D)} {ma mb : EM D} (ho : DOpL X (binaryOp op) f) (ha : JE X W a ma) (hb : JE X W b mb) : JL X W (.BinOp a op b pos) (eBinL f ma mb) :=
  PE.imp (pe_op ho ha hb) fun _ _ _ => binL_imp
def dCatL : D → D → DH → Option (List D) := fun x y h => match lstM h x, lstM h y with | some a, some b => if a.length + b.length ≤ sizeLine then some (a ++ b) else none | _, _ => none
theorem do_catL : DOpL X (binaryOp .Add) dCatL := by
  intro pins s σ H v u vv uu Q I rx ry ⟨as, h, x, y, es, R, r1, r2, e, q⟩
  unfold dCatL at e
  split at e
  · rename_i da db h1 h2
    obtain ⟨c, rfl⟩ := ite_some e
    obtain ⟨a, vs, rfl, ha, ra⟩ := lstM_rd R r1 h1
    obtain ⟨b, us, rfl, hb, rb⟩ := lstM_rd R r2 h2
    exact op_cat pins s σ H _ _ vv uu Q I rx ry ⟨a, b, vs, us, rfl, rfl, ha, hb, by rw [ra.length, rb.length]; exact c, fun p hp => q p _ hp (ra.append rb)⟩
  · cases e
theorem RpL.flat {as : AS} : ∀ (n : Nat) {vs : List V} {ds : List D}, RpL K H as vs ds → RpL K H as (List.replicate n vs).flatten (List.replicate n ds).flatten
  | 0, _, _, _ => .nil
  | n + 1, _, _, r => by
    simp only [List.replicate_succ, List.flatten_cons]
    exact r.append (RpL.flat n r)
def dRepL : D → D → DH → Option (List D) := fun x y h => match lstM h x, y with | some a, .int k => if -(2 ^ 63) ≤ k ∧ k < 2 ^ 63 ∧ a.length * k.toNat ≤ sizeLine then some (List.replicate k.toNat a).flatten else none | _, _ => none
theorem do_repL : DOpL X (binaryOp .Mult) dRepL := by
  intro pins s σ H v u vv uu Q I rx ry ⟨as, h, x, y, es, R, r1, r2, e, q⟩
  unfold dRepL at e
  split at e
  · rename_i da k h1
    obtain ⟨⟨c1, c2, c3⟩, rfl⟩ := ite_some e
    obtain ⟨a, vs, rfl, ha, ra⟩ := lstM_rd R r1 h1
    cases r2
    exact op_rep pins s σ H _ _ vv uu Q I rx ry ⟨a, k, vs, rfl, rfl, ha, c1, c2, by rw [ra.length]; exact c3, fun p hp => q p _ hp (RpL.flat _ ra)⟩
  · cases e
/-! slices -/
def tOfO (K : PySem.W.Frag) (W : WX) (m : EM (Option Int)) : TO := fun σ H Q => ∃ as ρ h, RS K σ H as ρ h ∧ wpR K (fun c x H' => W c x σ H') as H (m ρ h) (fun _ H' o _ => Q o H')
abbrev JO (X : Cx) (W : WX) (e : Option Expr) (m : EM (Option Int)) : Prop := PO X e (tOfO X.K W m)
theorem then_O {α : Type} {as : AS} {ρ : DE} {h : DH} {m : EM (Option Int)} {k : Option Int → DH → Res α} {P : AS → Hp → α → DH → Prop} (R : RS K σ H as ρ h) (w : wpR K (fun c x H' => W c x σ H') as H ((m ρ h).bind k) P) {Q : Option Int → Hp → Prop}
    (hq : ∀ b H1 as1 h1, Stp as H as1 H1 → RS K σ H1 as1 ρ h1 → wpR K (fun c x H' => W c x σ H') as1 H1 (k b h1) P → Q b H1) : tOfO K W m σ H Q :=
  ⟨as, ρ, h, R, wpR_mono (wpR_bind w) fun as1 H1 d h1 s R1 w1 => hq d H1 as1 h1 s (R.step s R1) w1⟩
def oNone : EM (Option Int) := fun _ h => .ok none h
def oSome (m : EM D) : EM (Option Int) := fun ρ h => (m ρ h).bind fun d h1 => match d with | .int i => .ok (some i) h1 | _ => .bad
theorem jo_none : JO X W none oNone := PO.imp po_none fun σ H Q ⟨as, ρ, h, R, w⟩ => w as H (Stp.refl _ _) R.h
theorem jo_some {e : Expr} {m : EM D} (he : JE X W e m) : JO X W (some e) (oSome m) := by
  refine PO.imp (po_some he) fun σ H Q ⟨as, ρ, h, R, w⟩ => ?_
  refine then_E R w fun v H1 as1 h1 x s1 R1 r1 w1 => ?_
  cases r1 with
  | int i => exact ⟨i, rfl, w1 as1 H1 (Stp.refl _ _) R1.h⟩
  | _ => exact False.elim w1
def cutD (ds : List D) (lo hi : Option Int) : List D := (ds.drop (HT.sIx ds.length 0 lo)).take (HT.sIx ds.length ds.length hi - HT.sIx ds.length 0 lo)
theorem RpL.drop {as : AS} : ∀ (n : Nat) {vs : List V} {ds : List D}, RpL K H as vs ds → RpL K H as (vs.drop n) (ds.drop n)
  | 0, _, _, r => r
  | _ + 1, _, _, .nil => .nil
  | n + 1, _, _, .cons _ r => RpL.drop n r
theorem RpL.take {as : AS} : ∀ (n : Nat) {vs : List V} {ds : List D}, RpL K H as vs ds → RpL K H as (vs.take n) (ds.take n)
  | 0, _, _, _ => .nil
  | _ + 1, _, _, .nil => .nil
  | n + 1, _, _, .cons a r => .cons a (RpL.take n r)
theorem RpL.cut {as : AS} {vs : List V} {ds : List D} (lo hi : Option Int) (r : RpL K H as vs ds) : RpL K H as (cutV vs lo hi) (cutD ds lo hi) := by
  unfold cutV cutD
  rw [r.length]
  exact (RpL.drop _ r).take _
def eSl {α : Type} (f : D → Option Int → Option Int → DH → Option α) (m : EM D) (ml mh : EM (Option Int)) : EM α := fun ρ h => (m ρ h).bind fun d h1 => (ml ρ h1).bind fun lo h2 => (mh ρ h2).bind fun hi h3 => orBad (f d lo hi h3) h3
def dSlL : D → Option Int → Option Int → DH → Option (List D) := fun d lo hi h => (lstD h d).map fun ds => cutD ds lo hi
def dSlT : D → Option Int → Option Int → DH → Option D := fun d lo hi _ => match d with | .tup ds => some (.tup (cutD ds lo hi)) | _ => none
theorem jl_slice {e : Expr} {lo hi : Option Expr} {p2 pos : Pos} {m : EM D} {ml mh : EM (Option Int)} (he : JE X W e m) (hl : JO X W lo ml) (hh : JO X W hi mh) : JL X W (.Subscript e (.Slice lo hi none p2) pos) (eSl dSlL m ml mh) := by
  refine PE.imp (pe_slice sl_list he hl hh) fun σ H Q ⟨as, ρ, h, R, w⟩ => ?_
  refine then_E R w fun v H1 as1 h1 x s1 R1 r1 w1 => ?_
  refine then_O R1 w1 fun o1 H2 as2 h2 s2 R2 w2 => ?_
  refine then_O R2 w2 fun o2 H3 as3 h3 s3 R3 w3 => ?_
  cases e : lstD h3 x with
  | none => simp only [dSlL, e, Option.map_none] at w3; exact False.elim w3
  | some ds =>
    simp only [dSlL, e, Option.map_some] at w3
    obtain ⟨a, vs, rfl, hq, rl⟩ := lstD_rd R3.h (Rp.step R2.h s3 x (Rp.step R1.h s2 x r1)) e
    exact ⟨a, vs, rfl, hq, fun p hp => w3 as3 H3 (Stp.refl _ _) R3.h p _ hp (rl.cut _ _)⟩
theorem je_sliceT {e : Expr} {lo hi : Option Expr} {p2 pos : Pos} {m : EM D} {ml mh : EM (Option Int)} (he : JE X W e m) (hl : JO X W lo ml) (hh : JO X W hi mh) : JE X W (.Subscript e (.Slice lo hi none p2) pos) (eSl dSlT m ml mh) := by
  refine PE.imp (pe_slice sl_tupA he hl hh) fun σ H Q ⟨as, ρ, h, R, w⟩ => ?_
  refine then_E R w fun v H1 as1 h1 x s1 R1 r1 w1 => ?_
  refine then_O R1 w1 fun o1 H2 as2 h2 s2 R2 w2 => ?_
  refine then_O R2 w2 fun o2 H3 as3 h3 s3 R3 w3 => ?_
  have r3 := Rp.step R2.h s3 x (Rp.step R1.h s2 x r1)
  cases r3 with
  | @tup a vs ds q rl =>
    refine ⟨a, vs, rfl, .inl (.inl q), fun z => ?_, fun z p hp => ?_⟩
    · refine w3 as3 H3 (Stp.refl _ _) R3.h _ (.tup q ?_)
      have e : cutD ds o1 o2 = ds := by
        unfold cutD
        rw [← rl.length, z.1, z.2]
        simp [rl.length]
      rw [e]
      exact rl
    · exact w3 as3 _ (Stp.grow hp) (R3.h.grow hp) _ (.tup upd_same (RpL.tr (Tr.grow hp) _ (rl.cut _ _)))
  | _ => exact False.elim w3

/-! ### truth, and, or, not, if -/
def truD (h : DH) : D → Option Bool
  | .non => some false
  | .bl b => some b
  | .int i => some (i != 0)
  | .tup ds => some (!ds.isEmpty)
  | .kt ds => some (!ds.isEmpty)
  | .lst ds => some (!ds.isEmpty)
  | .ref n => match h[n]? with | some (.lst ds) => some (!ds.isEmpty) | some (.dct kds) => some (!kds.isEmpty) | _ => none
  | _ => none
def tTru (m : EM D) : EM Bool := fun ρ h => (m ρ h).bind fun d h1 => orBad (truD h1 d) h1
theorem RpL.emp {as : AS} {vs : List V} {ds : List D} (r : RpL K H as vs ds) : vs.isEmpty = ds.isEmpty := by cases r <;> rfl
theorem truD_of {as : AS} {h : DH} {v : V} {d : D} {b : Bool} (R : RH K H as h) (r : Rp K H as v d) (e : truD h d = some b) : TruV K v H b := by
  cases r with
  | non => cases e; rfl
  | bl b => cases e; rfl
  | int i => cases e; rfl
  | @tup a vs ds q rl => cases e; exact .inr (.inl ⟨vs, .inl (.inl q), by rw [rl.emp]⟩)
  | @kt a vs ds q rl => cases e; exact .inr (.inl ⟨vs, sqT_none q, by rw [rl.emp]⟩)
  | @lst a vs ds q n rl => cases e; exact .inl ⟨vs, .inl (.inl q), by rw [rl.emp]⟩
  | @ref n a q =>
    have hn : ∃ c, h[n]? = some c := by
      have := (List.getElem?_eq_some_iff.mp q).1
      exact ⟨h[n]'(by rw [← R.len]; exact this), List.getElem?_eq_getElem _⟩
    obtain ⟨c, hc⟩ := hn
    simp only [truD, hc] at e
    cases c with
    | lst ds =>
      cases e
      obtain ⟨vs, h1, h2⟩ := R.cell n _ a hc q
      exact .inl ⟨vs, .inl (.inl h1), by rw [h2.emp]⟩
    | dct kds =>
      cases e
      obtain ⟨kvs, h1, h2, h3⟩ := R.cell n _ a hc q
      refine .inr (.inr ⟨kvs, h1, ?_⟩)
      have := h3.length
      cases kvs <;> cases kds <;> simp at this <;> rfl
    | ins _ _ => cases e
  | _ => cases e
theorem jt_tru {e : Expr} {m : EM D} (he : JE X W e m) (hp : ∀ whole, isTrue e X.env whole = (do let v ← whole; standAt e.pos; holding [v] (truthy v)) := by intro _; rfl) : JT X W e (tTru m) := by
  refine PT.imp (pt_truth he hp) fun σ H Q ⟨as, ρ, h, R, w⟩ => ?_
  refine then_E R w fun v H1 as1 h1 x s1 R1 r1 w1 => ?_
  cases e : truD h1 x with
  | none => rw [e] at w1; exact False.elim w1
  | some b => rw [e] at w1; exact ⟨b, truD_of R1.h r1 e, w1 as1 H1 (Stp.refl _ _) R1.h⟩
def tAnd' (a b : EM Bool) : EM Bool := fun ρ h => (a ρ h).bind fun c h1 => if c = true then b ρ h1 else .ok false h1
def tOr' (a b : EM Bool) : EM Bool := fun ρ h => (a ρ h).bind fun c h1 => if c = true then .ok true h1 else b ρ h1
def tNot' (a : EM Bool) : EM Bool := fun ρ h => (a ρ h).bind fun c h1 => .ok (!c) h1
theorem ok_T {as : AS} {ρ : DE} {h : DH} {m : EM Bool} (R : RS K σ H as ρ h) {Q : Bool → Hp → Prop} (w : wpR K (fun c x H' => W c x σ H') as H (m ρ h) (fun _ H' b _ => Q b H')) : tOfT K W m σ H Q := ⟨as, ρ, h, R, w⟩
theorem ok_E {as : AS} {ρ : DE} {h : DH} {m : EM D} (R : RS K σ H as ρ h) {Q : VK} (w : wpR K (fun c x H' => W c x σ H') as H (m ρ h) (fun as' H' d _ => ∀ v, Rp K H' as' v d → Q v H')) : tOf K W m σ H Q := ⟨as, ρ, h, R, w⟩
theorem jw_and1 {a : Expr} {pos : Pos} {m : EM Bool} (h : JT X W a m) : JW X W (.BoolOp .And [a] pos) m := pw_and1 h
theorem jw_or1 {a : Expr} {pos : Pos} {m : EM Bool} (h : JT X W a m) : JW X W (.BoolOp .Or [a] pos) m := pw_or1 h
theorem jw_and {a b : Expr} {rest : List Expr} {pos : Pos} {m n : EM Bool} (ha : JT X W a m) (hb : JW X W (.BoolOp .And (b :: rest) pos) n) : JW X W (.BoolOp .And (a :: b :: rest) pos) (tAnd' m n) := by
  refine PW.imp (pw_and ha hb) fun σ H Q ⟨as, ρ, h, R, w⟩ => ?_
  refine then_T R w fun b H1 as1 h1 s1 R1 w1 => ?_
  cases b with
  | true => exact ok_T R1 w1
  | false => exact w1 as1 H1 (Stp.refl _ _) R1.h
theorem jw_or {a b : Expr} {rest : List Expr} {pos : Pos} {m n : EM Bool} (ha : JT X W a m) (hb : JW X W (.BoolOp .Or (b :: rest) pos) n) : JW X W (.BoolOp .Or (a :: b :: rest) pos) (tOr' m n) := by
  refine PW.imp (pw_or ha hb) fun σ H Q ⟨as, ρ, h, R, w⟩ => ?_
  refine then_T R w fun b H1 as1 h1 s1 R1 w1 => ?_
  cases b with
  | true => exact w1 as1 H1 (Stp.refl _ _) R1.h
  | false => exact ok_T R1 w1
theorem jt_not {a : Expr} {pos : Pos} {m : EM Bool} (ha : JT X W a m) : JT X W (.UnaryOp .Not a pos) (tNot' m) := by
  refine PT.imp (pt_not ha) fun σ H Q ⟨as, ρ, h, R, w⟩ => ?_
  exact then_T R w fun b H1 as1 h1 s1 R1 w1 => w1 as1 H1 (Stp.refl _ _) R1.h
def eIf (c : EM Bool) (a b : EM D) : EM D := fun ρ h => (c ρ h).bind fun k h1 => if k = true then a ρ h1 else b ρ h1
theorem je_if {c a b : Expr} {pos : Pos} {mc : EM Bool} {ma mb : EM D} (hc : JT X W c mc) (ha : JE X W a ma) (hb : JE X W b mb) : JE X W (.IfExp c a b pos) (eIf mc ma mb) := by
  refine PE.imp (pe_ifExp hc ha hb) fun σ H Q ⟨as, ρ, h, R, w⟩ => ?_
  refine then_T R w fun b H1 as1 h1 s1 R1 w1 => ?_
  cases b with
  | true => exact ok_E R1 w1
  | false => exact ok_E R1 w1
/-! and, or, not of bools as values -/
def eAnd (a b : EM D) : EM D := fun ρ h => (a ρ h).bind fun d h1 => match d with | .bl true => b ρ h1 | .bl false => .ok (.bl false) h1 | _ => .bad
def eOr (a b : EM D) : EM D := fun ρ h => (a ρ h).bind fun d h1 => match d with | .bl true => .ok (.bl true) h1 | .bl false => b ρ h1 | _ => .bad
def eNot (a : EM D) : EM D := fun ρ h => (a ρ h).bind fun d h1 => match d with | .bl b => .ok (.bl (!b)) h1 | _ => .bad
theorem je_one {a : Expr} {op pos} {m : EM D} (h : JE X W a m) : JE X W (.BoolOp op [a] pos) m := pe_one h
theorem je_and {a b : Expr} {rest : List Expr} {pos : Pos} {m n : EM D} (ha : JE X W a m) (hb : JE X W (.BoolOp .And (b :: rest) pos) n) : JE X W (.BoolOp .And (a :: b :: rest) pos) (eAnd m n) := by
  refine PE.imp (pe_and ha hb) fun σ H Q ⟨as, ρ, h, R, w⟩ => ?_
  refine then_E R w fun v H1 as1 h1 x s1 R1 r1 w1 => ?_
  cases r1 with
  | bl b =>
    refine ⟨b, rfl, ?_⟩
    cases b with
    | true => exact ok_E R1 w1
    | false => exact w1 as1 H1 (Stp.refl _ _) R1.h _ (.bl _)
  | _ => exact False.elim w1
theorem je_or {a b : Expr} {rest : List Expr} {pos : Pos} {m n : EM D} (ha : JE X W a m) (hb : JE X W (.BoolOp .Or (b :: rest) pos) n) : JE X W (.BoolOp .Or (a :: b :: rest) pos) (eOr m n) := by
  refine PE.imp (pe_or ha hb) fun σ H Q ⟨as, ρ, h, R, w⟩ => ?_
  refine then_E R w fun v H1 as1 h1 x s1 R1 r1 w1 => ?_
  cases r1 with
  | bl b =>
    refine ⟨b, rfl, ?_⟩
    cases b with
    | true => exact w1 as1 H1 (Stp.refl _ _) R1.h _ (.bl _)
    | false => exact ok_E R1 w1
  | _ => exact False.elim w1
theorem je_not {a : Expr} {pos : Pos} {m : EM D} (ha : JE X W a m) : JE X W (.UnaryOp .Not a pos) (eNot m) := by
  refine PE.imp (pe_not ha) fun σ H Q ⟨as, ρ, h, R, w⟩ => ?_
  refine then_E R w fun v H1 as1 h1 x s1 R1 r1 w1 => ?_
  cases r1 with
  | bl b => exact ⟨b, rfl, w1 as1 H1 (Stp.refl _ _) R1.h _ (.bl _)⟩
  | _ => exact False.elim w1
def eNeg (a : EM D) : EM D := fun ρ h => (a ρ h).bind fun d h1 => match d with | .int i => .ok (.int (-i)) h1 | _ => .bad
theorem je_neg {a : Expr} {pos : Pos} {m : EM D} (ha : JE X W a m) : JE X W (.UnaryOp .USub a pos) (eNeg m) := by
  refine PE.imp (pe_un un_neg ha) fun σ H Q ⟨as, ρ, h, R, w⟩ => ?_
  refine then_E R w fun v H1 as1 h1 x s1 R1 r1 w1 => ?_
  cases r1 with
  | int i => exact ⟨i, rfl, w1 as1 H1 (Stp.refl _ _) R1.h _ (.int _)⟩
  | _ => exact False.elim w1
end
end DL


/-! DL: calls of built-in functions. -/
namespace DL
open PySem L2

/-! ### sorting, plainly -/
section
variable {α : Type} (le : α → α → Bool)
def ins (x : α) : List α → List α
  | [] => [x]
  | y :: ys => if le x y = true then x :: y :: ys else y :: ins x ys
def isrt : List α → List α
  | [] => []
  | x :: xs => ins le x (isrt xs)
theorem ins_perm (x : α) : ∀ l : List α, (ins le x l).Perm (x :: l)
  | [] => List.Perm.refl _
  | y :: ys => by
    unfold ins
    split
    · exact List.Perm.refl _
    · exact ((ins_perm x ys).cons y).trans (List.Perm.swap x y ys)
theorem isrt_perm : ∀ l : List α, (isrt le l).Perm l
  | [] => List.Perm.refl _
  | x :: xs => (ins_perm le x _).trans ((isrt_perm xs).cons x)
theorem ins_sorted (tot : ∀ a b, le a b = true ∨ le b a = true) (tr : ∀ a b c, le a b = true → le b c = true → le a c = true) (x : α) : ∀ l : List α, l.Pairwise (fun a b => le a b = true) → (ins le x l).Pairwise (fun a b => le a b = true)
  | [], _ => List.pairwise_singleton _ _
  | y :: ys, h => by
    unfold ins
    by_cases c : le x y = true
    · rw [if_pos c]
      refine List.pairwise_cons.mpr ⟨fun z hz => ?_, h⟩
      rcases List.mem_cons.mp hz with e | hz
      · rw [e]; exact c
      · exact tr _ _ _ c ((List.pairwise_cons.mp h).1 z hz)
    · rw [if_neg c]
      have hyx : le y x = true := (tot x y).resolve_left c
      refine List.pairwise_cons.mpr ⟨fun z hz => ?_, ins_sorted tot tr x ys (List.pairwise_cons.mp h).2⟩
      rcases List.mem_cons.mp ((ins_perm le x ys).mem_iff.mp hz) with e | hz
      · rw [e]; exact hyx
      · exact (List.pairwise_cons.mp h).1 z hz
theorem isrt_sorted (tot : ∀ a b, le a b = true ∨ le b a = true) (tr : ∀ a b c, le a b = true → le b c = true → le a c = true) : ∀ l : List α, (isrt le l).Pairwise (fun a b => le a b = true)
  | [] => List.Pairwise.nil
  | x :: xs => ins_sorted le tot tr x _ (isrt_sorted tot tr xs)
theorem sorted_uniq {R : α → α → Prop} (anti : ∀ a b, R a b → R b a → a = b) : ∀ l m : List α, l.Perm m → l.Pairwise R → m.Pairwise R → l = m
  | [], m, p, _, _ => (List.Perm.nil_eq p)
  | x :: xs, [], p, _, _ => absurd p.length_eq (by simp)
  | x :: xs, y :: ys, p, h1, h2 => by
    have e : x = y := by
      have hx : x ∈ y :: ys := p.mem_iff.mp List.mem_cons_self
      have hy : y ∈ x :: xs := p.mem_iff.mpr List.mem_cons_self
      rcases List.mem_cons.mp hx with e | hx
      · exact e
      · rcases List.mem_cons.mp hy with e | hy
        · exact e.symm
        · exact anti _ _ ((List.pairwise_cons.mp h1).1 y hy) ((List.pairwise_cons.mp h2).1 x hx)
    subst e
    rw [sorted_uniq anti xs ys p.cons_inv (List.pairwise_cons.mp h1).2 (List.pairwise_cons.mp h2).2]
end
def leI (a b : Int) : Bool := decide (a ≤ b)
def sortI (ns : List Int) : List Int := isrt leI ns
theorem sortI_eq {ns ms : List Int} (p : ms.Perm ns) (s : ms.Pairwise (· ≤ ·)) : ms = sortI ns := by
  refine sorted_uniq (R := fun a b => a ≤ b) (fun a b h1 h2 => Int.le_antisymm h1 h2) ms _ (p.trans (isrt_perm leI ns).symm) s ?_
  exact (isrt_sorted leI (fun a b => by simp only [leI, decide_eq_true_eq]; omega) (fun a b c h1 h2 => by simp only [leI, decide_eq_true_eq] at *; omega) ns).imp fun h => by simpa [leI] using h
theorem sortI_perm (ns : List Int) : (sortI ns).Perm ns := isrt_perm leI ns
theorem sortI_sorted (ns : List Int) : (sortI ns).Pairwise (· ≤ ·) :=
  (isrt_sorted leI (fun a b => by simp only [leI, decide_eq_true_eq]; omega) (fun a b c h1 h2 => by simp only [leI, decide_eq_true_eq] at *; omega) ns).imp fun h => by simpa [leI] using h
def leP (a b : Int × Int) : Bool := decide (a.1 < b.1) || (decide (a.1 = b.1) && decide (a.2 ≤ b.2))
theorem leP_iff {a b : Int × Int} : leP a b = true ↔ a.1 < b.1 ∨ (a.1 = b.1 ∧ a.2 ≤ b.2) := by simp [leP]
def sortP (ns : List (Int × Int)) : List (Int × Int) := isrt leP ns
theorem leP_tot (a b : Int × Int) : leP a b = true ∨ leP b a = true := by rw [leP_iff, leP_iff]; omega
theorem leP_tr (a b c : Int × Int) (h1 : leP a b = true) (h2 : leP b c = true) : leP a c = true := by rw [leP_iff] at *; omega
theorem sortP_perm (ns : List (Int × Int)) : (sortP ns).Perm ns := isrt_perm leP ns
theorem sortP_sorted (ns : List (Int × Int)) : (sortP ns).Pairwise (fun a b => leP a b = true) := isrt_sorted leP leP_tot leP_tr ns
theorem sortP_eq {ns ms : List (Int × Int)} (p : ms.Perm ns) (s : ms.Pairwise (fun a b => leP a b = true)) : ms = sortP ns :=
  sorted_uniq (fun a b h1 h2 => by
    rw [leP_iff] at h1 h2
    have e1 : a.1 = b.1 := by omega
    have e2 : a.2 = b.2 := by omega
    exact Prod.ext e1 e2) ms _ (p.trans (sortP_perm ns).symm) s (sortP_sorted ns)
def minI : List Int → Int
  | [] => 0
  | x :: xs => xs.foldl min x
def maxI : List Int → Int
  | [] => 0
  | x :: xs => xs.foldl max x
theorem foldl_min : ∀ (l : List Int) (x : Int), (l.foldl min x = x ∨ l.foldl min x ∈ l) ∧ l.foldl min x ≤ x ∧ ∀ y ∈ l, l.foldl min x ≤ y
  | [], x => ⟨.inl rfl, Int.le_refl _, by simp⟩
  | z :: l, x => by
    obtain ⟨h1, h2, h3⟩ := foldl_min l (min x z)
    simp only [List.foldl_cons]
    refine ⟨?_, by omega, fun y hy => ?_⟩
    · rcases h1 with h1 | h1
      · rw [h1]
        by_cases c : x ≤ z
        · exact .inl (by omega)
        · exact .inr (List.mem_cons.mpr (.inl (by omega)))
      · exact .inr (List.mem_cons_of_mem _ h1)
    · rcases List.mem_cons.mp hy with e | hy
      · rw [e]; omega
      · exact h3 y hy
theorem foldl_max : ∀ (l : List Int) (x : Int), (l.foldl max x = x ∨ l.foldl max x ∈ l) ∧ x ≤ l.foldl max x ∧ ∀ y ∈ l, y ≤ l.foldl max x
  | [], x => ⟨.inl rfl, Int.le_refl _, by simp⟩
  | z :: l, x => by
    obtain ⟨h1, h2, h3⟩ := foldl_max l (max x z)
    simp only [List.foldl_cons]
    refine ⟨?_, by omega, fun y hy => ?_⟩
    · rcases h1 with h1 | h1
      · rw [h1]
        by_cases c : z ≤ x
        · exact .inl (by omega)
        · exact .inr (List.mem_cons.mpr (.inl (by omega)))
      · exact .inr (List.mem_cons_of_mem _ h1)
    · rcases List.mem_cons.mp hy with e | hy
      · rw [e]; omega
      · exact h3 y hy
theorem minI_mem {l : List Int} (h : l ≠ []) : minI l ∈ l := by
  cases l with
  | nil => exact absurd rfl h
  | cons x xs =>
    rcases (foldl_min xs x).1 with e | e
    · exact List.mem_cons.mpr (.inl e)
    · exact List.mem_cons_of_mem _ e
theorem minI_le {l : List Int} {y : Int} (h : y ∈ l) : minI l ≤ y := by
  cases l with
  | nil => cases h
  | cons x xs =>
    rcases List.mem_cons.mp h with e | e
    · rw [e]; exact (foldl_min xs x).2.1
    · exact (foldl_min xs x).2.2 y e
theorem maxI_mem {l : List Int} (h : l ≠ []) : maxI l ∈ l := by
  cases l with
  | nil => exact absurd rfl h
  | cons x xs =>
    rcases (foldl_max xs x).1 with e | e
    · exact List.mem_cons.mpr (.inl e)
    · exact List.mem_cons_of_mem _ e
theorem maxI_le {l : List Int} {y : Int} (h : y ∈ l) : y ≤ maxI l := by
  cases l with
  | nil => cases h
  | cons x xs =>
    rcases List.mem_cons.mp h with e | e
    · rw [e]; exact (foldl_max xs x).2.1
    · exact (foldl_max xs x).2.2 y e

/-! ### lists of one kind -/
def intD : D → Option Int | .int i => some i | _ => none
def blD : D → Option Bool | .bl i => some i | _ => none
def pairD : D → Option (Int × Int) | .tup [.int a, .int b] => some (a, b) | _ => none
def allD {α : Type} (f : D → Option α) : List D → Option (List α)
  | [] => some []
  | d :: ds => match f d with | none => none | some a => (allD f ds).map (a :: ·)
theorem allD_cons {α : Type} {f : D → Option α} {d : D} {ds : List D} {xs : List α} (e : allD f (d :: ds) = some xs) : ∃ a as, f d = some a ∧ allD f ds = some as ∧ xs = a :: as := by
  unfold allD at e
  split at e
  · cases e
  · rename_i a h
    obtain ⟨as, e1, rfl⟩ := Option.map_eq_some_iff.mp e
    exact ⟨a, as, h, e1, rfl⟩
@[simp] theorem allD_int (ns : List Int) : allD intD (ns.map D.int) = some ns := by
  induction ns with
  | nil => rfl
  | cons x xs ih => simp [allD, intD, ih]
@[simp] theorem allD_bl (ns : List Bool) : allD blD (ns.map D.bl) = some ns := by
  induction ns with
  | nil => rfl
  | cons x xs ih => simp [allD, blD, ih]
section
variable {K : PySem.W.Frag} {H : Hp} {as : AS}
theorem ints_of : ∀ {ds : List D} {vs : List V} {ns : List Int}, RpL K H as vs ds → allD intD ds = some ns → vs = ns.map V.int ∧ ds = ns.map D.int
  | [], _, _, r, e => by cases r; cases e; exact ⟨rfl, rfl⟩
  | d :: ds, _, _, r, e => by
    cases r with
    | cons a b =>
      obtain ⟨n, ns, h1, h2, rfl⟩ := allD_cons e
      obtain ⟨rfl, rfl⟩ := ints_of b h2
      cases a <;> cases h1
      exact ⟨rfl, rfl⟩
theorem bls_of : ∀ {ds : List D} {vs : List V} {ns : List Bool}, RpL K H as vs ds → allD blD ds = some ns → vs = ns.map V.bl
  | [], _, _, r, e => by cases r; cases e; rfl
  | d :: ds, _, _, r, e => by
    cases r with
    | cons a b =>
      obtain ⟨n, ns, h1, h2, rfl⟩ := allD_cons e
      have := bls_of b h2
      subst this
      cases a <;> cases h1
      rfl
theorem rpL_ints (ns : List Int) : RpL K H as (ns.map V.int) (ns.map D.int) := by
  induction ns with
  | nil => exact .nil
  | cons n ns ih => exact .cons (.int n) ih
end

section
variable {X : Cx}
/-! ### the functions -/
def cLen : List D → DH → Option D := fun ds h => match ds with
  | [d] => (match seqD h d with
    | some es => some (.int (es.length : Int))
    | none => match d with
      | .ref n => (match h[n]? with | some (.dct kds) => some (.int (kds.length : Int)) | _ => none)
      | .dct ks _ => some (.int (ks.length : Int))
      | _ => none)
  | _ => none
theorem call_lenR : CallR X (.builtin "len") (fun xs H Q => ∃ a kvs, xs = [V.ref a] ∧ Rd H a (.dK kvs) ∧ Q (.int (kvs.length : Nat)) H) := by
  intro pins s σ H xs us Q I r h
  obtain ⟨a, kvs, rfl, hd, q⟩ := h
  obtain ⟨u, rfl, rx⟩ := vals1 r
  cases rx
  exact d_len I hd fun t s' I' => ⟨.int (kvs.length : Nat), H, I', ⟨t, rfl⟩, q⟩
theorem dc_len : DCall X (.builtin "len") cLen := by
  refine DCall.mk' (CallR.or call_len_seq call_lenR) fun vs H Q as h ds d R r e q => ?_
  unfold cLen at e
  split at e
  · rename_i x
    cases r with
    | cons rx rn =>
      cases rn
      split at e
      · rename_i es hs
        cases e
        obtain ⟨a, us, rfl, hq, rl⟩ := seqD_rd R rx hs
        exact .inl ⟨a, us, rfl, hq, q _ _ (Stp.refl _ _) R (by rw [rl.length]; exact .int _)⟩
      · split at e
        · cases rx with
          | @ref n a qa =>
            split at e
            · rename_i kds hc
              cases e
              obtain ⟨kvs, h1, h2, h3⟩ := R.cell _ _ a hc qa
              have hl : kvs.length = kds.length := by have := h3.length; simpa using this
              exact .inr ⟨a, kvs, rfl, .inl h1, q _ _ (Stp.refl _ _) R (by rw [hl]; exact .int _)⟩
            · cases e
        · cases e
          cases rx with
          | @dct a kvs ks us ds' h1 h2 h3 h4 h5 =>
            have hl := congrArg List.length h3
            rw [List.length_map] at hl
            exact .inr ⟨a, kvs, rfl, h1, q _ _ (Stp.refl _ _) R (by rw [← hl]; exact .int _)⟩
        · cases e
  · cases e
def cInt : List D → DH → Option D := fun ds _ => match ds with | [.int i] => some (.int i) | [.bl k] => some (.int (if k then 1 else 0)) | _ => none
theorem dc_int : DCall X (.type "int") cInt := by
  refine DCall.mk' call_int1 fun vs H Q as h ds d R r e q => ?_
  unfold cInt at e
  split at e
  · cases e
    cases r with
    | cons rx rn => cases rn; cases rx; exact .inl ⟨_, rfl, q _ _ (Stp.refl _ _) R (.int _)⟩
  · cases e
    cases r with
    | cons rx rn => cases rn; cases rx; exact .inr ⟨_, rfl, q _ _ (Stp.refl _ _) R (.int _)⟩
  · cases e
def onInts (g : List Int → Option D) : List D → DH → Option D := fun ds h => match ds with
  | [d] => (match lstD h d with | some es => (match allD intD es with | some ns => g ns | none => none) | none => none)
  | _ => none
theorem onInts_rd {g : List Int → Option D} {K : PySem.W.Frag} {H : Hp} {as : AS} {h : DH} {ds : List D} {vs : List V} {d : D} (R : RH K H as h) (r : RpL K H as vs ds) (e : onInts g ds h = some d) : ∃ a ns, vs = [V.ref a] ∧ SqL K H a (ns.map V.int) ∧ g ns = some d := by
  unfold onInts at e
  split at e
  · split at e
    · rename_i es hs
      split at e
      · rename_i ns hn
        cases r with
        | cons rx rn =>
          cases rn
          obtain ⟨a, us, rfl, hq, rl⟩ := lstD_rd R rx hs
          obtain ⟨rfl, _⟩ := ints_of rl hn
          exact ⟨a, ns, rfl, hq, e⟩
      · cases e
    · cases e
  · cases e
def cSum : List D → DH → Option D := onInts fun ns => some (.int ns.sum)
theorem dc_sum (hc : X.calm = true) : DCall X (.builtin "sum") cSum := by
  refine DCall.mk' (cr_sum hc) fun vs H Q as h ds d R r e q => ?_
  obtain ⟨a, ns, rfl, hq, e⟩ := onInts_rd R r e
  cases e
  exact ⟨a, ns, rfl, hq, q _ _ (Stp.refl _ _) R (.int _)⟩
def cMin : List D → DH → Option D := onInts fun ns => if ns = [] then none else some (.int (minI ns))
theorem dc_min (hc : X.calm = true) : DCall X (.builtin "min") cMin := by
  refine DCall.mk' (cr_min hc) fun vs H Q as h ds d R r e q => ?_
  obtain ⟨a, ns, rfl, hq, e⟩ := onInts_rd R r e
  by_cases c : ns = []
  · rw [if_pos c] at e; cases e
  · rw [if_neg c] at e
    cases e
    refine ⟨a, ns, rfl, hq, List.length_pos_iff.mpr c, fun m hm hle => ?_⟩
    have : m = minI ns := Int.le_antisymm (hle _ (minI_mem c)) (minI_le hm)
    rw [this]
    exact q _ _ (Stp.refl _ _) R (.int _)
def cMax : List D → DH → Option D := onInts fun ns => if ns = [] then none else some (.int (maxI ns))
theorem dc_max (hc : X.calm = true) : DCall X (.builtin "max") cMax := by
  refine DCall.mk' (cr_max hc) fun vs H Q as h ds d R r e q => ?_
  obtain ⟨a, ns, rfl, hq, e⟩ := onInts_rd R r e
  by_cases c : ns = []
  · rw [if_pos c] at e; cases e
  · rw [if_neg c] at e
    cases e
    refine ⟨a, ns, rfl, hq, List.length_pos_iff.mpr c, fun m hm hle => ?_⟩
    have : m = maxI ns := Int.le_antisymm (maxI_le hm) (hle _ (maxI_mem c))
    rw [this]
    exact q _ _ (Stp.refl _ _) R (.int _)
def cMin2 : List D → DH → Option D := fun ds _ => match ds with | [.int i, .int j] => some (.int (min i j)) | _ => none
def cMax2 : List D → DH → Option D := fun ds _ => match ds with | [.int i, .int j] => some (.int (max i j)) | _ => none
theorem dc_min2 (hc : X.calm = true) : DCall X (.builtin "min") cMin2 := by
  refine DCall.mk' (call_min2 hc) fun vs H Q as h ds d R r e q => ?_
  unfold cMin2 at e
  split at e
  · rename_i i j
    cases e
    cases r with
    | cons r1 rn =>
      cases rn with
      | cons r2 rn =>
        cases rn; cases r1; cases r2
        refine ⟨i, j, rfl, q _ _ (Stp.refl _ _) R ?_⟩
        have : min i j = if j < i then j else i := by split <;> omega
        rw [this]
        exact .int _
  · cases e
theorem dc_max2 (hc : X.calm = true) : DCall X (.builtin "max") cMax2 := by
  refine DCall.mk' (call_max2 hc) fun vs H Q as h ds d R r e q => ?_
  unfold cMax2 at e
  split at e
  · rename_i i j
    cases e
    cases r with
    | cons r1 rn =>
      cases rn with
      | cons r2 rn =>
        cases rn; cases r1; cases r2
        refine ⟨i, j, rfl, q _ _ (Stp.refl _ _) R ?_⟩
        have : max i j = if j > i then j else i := by split <;> omega
        rw [this]
        exact .int _
  · cases e
def cAbs : List D → DH → Option D := fun ds _ => match ds with | [.int i] => some (.int (if i < 0 then -i else i)) | _ => none
theorem dc_abs : DCall X (.builtin "abs") cAbs := by
  refine DCall.mk' call_abs fun vs H Q as h ds d R r e q => ?_
  unfold cAbs at e
  split at e
  · cases e
    cases r with
    | cons rx rn => cases rn; cases rx; exact ⟨_, rfl, q _ _ (Stp.refl _ _) R (.int _)⟩
  · cases e
def onBls (g : List Bool → D) : List D → DH → Option D := fun ds h => match ds with
  | [d] => (match lstD h d with | some es => (allD blD es).map g | none => none)
  | _ => none
theorem onBls_rd {g : List Bool → D} {K : PySem.W.Frag} {H : Hp} {as : AS} {h : DH} {ds : List D} {vs : List V} {d : D} (R : RH K H as h) (r : RpL K H as vs ds) (e : onBls g ds h = some d) : ∃ a bs, vs = [V.ref a] ∧ SqL K H a (bs.map V.bl) ∧ g bs = d := by
  unfold onBls at e
  split at e
  · split at e
    · rename_i es hs
      obtain ⟨bs, hn, e⟩ := Option.map_eq_some_iff.mp e
      cases r with
      | cons rx rn =>
        cases rn
        obtain ⟨a, us, rfl, hq, rl⟩ := lstD_rd R rx hs
        have := bls_of rl hn
        subst this
        exact ⟨a, bs, rfl, hq, e⟩
    · cases e
  · cases e
def cAll : List D → DH → Option D := onBls fun bs => .bl (bs.all id)
def cAny : List D → DH → Option D := onBls fun bs => .bl (bs.any id)
theorem dc_all (hc : X.calm = true) : DCall X (.builtin "all") cAll := by
  refine DCall.mk' (cr_all hc) fun vs H Q as h ds d R r e q => ?_
  obtain ⟨a, bs, rfl, hq, rfl⟩ := onBls_rd R r e
  exact ⟨a, bs, rfl, hq, q _ _ (Stp.refl _ _) R (.bl _)⟩
theorem dc_any (hc : X.calm = true) : DCall X (.builtin "any") cAny := by
  refine DCall.mk' (cr_any hc) fun vs H Q as h ds d R r e q => ?_
  obtain ⟨a, bs, rfl, hq, rfl⟩ := onBls_rd R r e
  exact ⟨a, bs, rfl, hq, q _ _ (Stp.refl _ _) R (.bl _)⟩
/-! list(x), tuple(x), sorted(x) -/
def cSeq : List D → DH → Option (List D) := fun ds h => match ds with | [d] => seqD h d | _ => none
theorem dc_list : DCallL X (.type "list") cSeq := by
  refine DCallL.mk' call_list_of fun vs H Q as h ds d R r e q => ?_
  unfold cSeq at e
  split at e
  · cases r with
    | cons rx rn =>
      cases rn
      obtain ⟨a, us, rfl, hq, rl⟩ := seqD_rd R rx e
      exact ⟨a, us, rfl, hq, fun l hl => q l us hl rl⟩
  · cases e
def cTup : List D → DH → Option D := fun ds h => match ds with
  | [d] => (match lstD h d with | some es => some (.tup es) | none => match d with | .tup es => some (.tup es) | _ => none)
  | _ => none
theorem dc_tup : DCall X (.type "tuple") cTup := by
  refine DCall.mk' call_tuple_of fun vs H Q as h ds d R r e q => ?_
  unfold cTup at e
  split at e
  · cases r with
    | cons rx rn =>
      cases rn
      split at e
      · rename_i es hs
        cases e
        obtain ⟨a, us, rfl, hq, rl⟩ := lstD_rd R rx hs
        exact ⟨a, us, rfl, .inl ⟨hq, fun l hl => q _ _ (Stp.grow hl) (R.grow hl) (.tup upd_same (RpL.tr (Tr.grow hl) _ rl))⟩⟩
      · split at e
        · cases e
          cases rx with
          | @tup a us _ qa rl => exact ⟨a, us, rfl, .inr ⟨.inl (.inl qa), q _ _ (Stp.refl _ _) R (.tup qa rl)⟩⟩
        · cases e
  · cases e
def cSorted : List D → DH → Option (List D) := fun ds h => match ds with
  | [d] => (match lstD h d with | some es => (allD intD es).map fun ns => (sortI ns).map D.int | none => none)
  | _ => none
theorem dc_sorted : DCallL X (.builtin "sorted") cSorted := by
  refine DCallL.mk' cr_sortedI fun vs H Q as h ds d R r e q => ?_
  unfold cSorted at e
  split at e
  · split at e
    · rename_i es hs
      obtain ⟨ns, hn, rfl⟩ := Option.map_eq_some_iff.mp e
      cases r with
      | cons rx rn =>
        cases rn
        obtain ⟨a, us, rfl, hq, rl⟩ := lstD_rd R rx hs
        obtain ⟨rfl, _⟩ := ints_of rl hn
        refine ⟨a, ns, rfl, hq, fun ms p hp hs hn => ?_⟩
        rw [sortI_eq hp hs]
        exact q p _ hn (rpL_ints _)
    · cases e
  · cases e
def dPair (p : Int × Int) : D := .tup [.int p.1, .int p.2]
def cSortedP : List D → DH → Option (List D) := fun ds h => match ds with
  | [d] => (match lstD h d with | some es => (allD pairD es).map fun ns => (sortP ns).map dPair | none => none)
  | _ => none
/-- the pair that stands at a value -/
def keyV (H : Hp) (v : V) : Int × Int := match v with | .ref t => (match H t with | some (.tup [.int a, .int b]) => (a, b) | _ => (0, 0)) | _ => (0, 0)
theorem pairs_of : ∀ {K : PySem.W.Frag} {H : Hp} {as : AS} {ds : List D} {vs : List V} {ns : List (Int × Int)}, RpL K H as vs ds → allD pairD ds = some ns → vs.map (keyV H) = ns ∧ ∀ x ∈ vs, ∃ t, x = V.ref t ∧ H t = some (.tup [.int (keyV H x).1, .int (keyV H x).2])
  | _, _, _, [], _, _, r, e => by cases r; cases e; exact ⟨rfl, by simp⟩
  | K, H, as, d :: ds, _, _, r, e => by
    cases r with
    | @cons v vs _ _ a b =>
      obtain ⟨n, ns, h1, h2, rfl⟩ := allD_cons e
      obtain ⟨h3, h4⟩ := pairs_of b h2
      unfold pairD at h1
      split at h1
      · rename_i i j
        cases h1
        cases a with
        | @tup t us _ q rl =>
          cases rl with
          | cons ri rn =>
            cases rn with
            | cons rj rn =>
              cases rn; cases ri; cases rj
              have hk : keyV H (.ref t) = (i, j) := by simp [keyV, q]
              refine ⟨by rw [List.map_cons, hk, h3], fun x hx => ?_⟩
              rcases List.mem_cons.mp hx with rfl | hx
              · exact ⟨t, rfl, by rw [hk]; exact q⟩
              · exact h4 x hx
      · cases h1
theorem dc_sortedP : DCallL X (.builtin "sorted") cSortedP := by
  refine DCallL.mk' cr_sortedPO fun vs H Q as h ds d R r e q => ?_
  unfold cSortedP at e
  split at e
  · split at e
    · rename_i es hs
      obtain ⟨ns, hn, rfl⟩ := Option.map_eq_some_iff.mp e
      cases r with
      | cons rx rn =>
        cases rn
        obtain ⟨a, us, rfl, hq, rl⟩ := lstD_rd R rx hs
        obtain ⟨k1, k2⟩ := pairs_of rl hn
        refine ⟨a, us, keyV H, rfl, hq, k2, fun ys p hs hb hp => ?_⟩
        have hperm := hb.perm
        have he : ys.map (keyV H) = sortP ns := by
          refine sortP_eq ?_ ?_
          · rw [← k1]; exact hperm.map _
          · refine List.pairwise_map.mpr (hs.imp fun {x y} hxy => ?_)
            have := SrtO.lexB_no.mp hxy
            rw [leP_iff]
            omega
        refine q p ys hp ?_
        rw [← he]
        have all : ∀ x ∈ ys, ∃ t, x = V.ref t ∧ H t = some (.tup [.int (keyV H x).1, .int (keyV H x).2]) := fun x hx => k2 x (hperm.mem_iff.mp hx)
        clear he hperm hs hb
        induction ys with
        | nil => exact .nil
        | cons y ys ih =>
          obtain ⟨t, e1, e2⟩ := all y List.mem_cons_self
          refine .cons ?_ (ih fun x hx => all x (List.mem_cons_of_mem _ hx))
          rw [e1] at e2 ⊢
          exact .tup e2 (.cons (.int _) (.cons (.int _) .nil))
    · cases e
  · cases e
/-! isinstance -/
def isi (a b : String) : Option Bool := if a ∈ ["NoneType", "bool", "int", "str", "list", "tuple", "dict"] ∧ b ∈ ["bool", "int", "str", "list", "tuple", "dict"] then some (a == b || (a == "bool" && b == "int")) else none
theorem isi_kit {K : PySem.W.Frag} {a b : String} {r : Bool} (e : isi a b = some r) : PySem.W.kitOne K (.type a) (.type b) = some r := by
  obtain ⟨⟨h1, h2⟩, rfl⟩ := ite_some e
  have go : kitB a b = some (a == b || (a == "bool" && b == "int")) := by
    simp only [List.mem_cons, List.not_mem_nil, or_false] at h1 h2
    rcases h1 with rfl | rfl | rfl | rfl | rfl | rfl | rfl <;> rcases h2 with rfl | rfl | rfl | rfl | rfl | rfl <;> decide +kernel
  exact kit_ty go
def tyD (h : DH) : D → Option String
  | .non => some "NoneType"
  | .bl _ => some "bool"
  | .int _ => some "int"
  | .str _ => some "str"
  | .tup _ => some "tuple"
  | .lst _ => some "list"
  | .dct _ _ => some "dict"
  | .ref n => match h[n]? with | some (.lst _) => some "list" | some (.dct _) => some "dict" | _ => none
  | _ => none
theorem tyD_of {K : PySem.W.Frag} {H : Hp} {as : AS} {h : DH} {v : V} {d : D} {T : String} (R : RH K H as h) (r : Rp K H as v d) (e : tyD h d = some T) : TyX K H v (.type T) := by
  cases r with
  | non => cases e; exact .base .non
  | bl b => cases e; exact .base (.bl b)
  | int b => cases e; exact .base (.int b)
  | str b => cases e; exact .base (.str b)
  | tup q _ => cases e; exact .base (.tup q)
  | lst q _ _ => cases e; exact .base (.lst q)
  | dct q _ _ _ _ =>
    cases e
    rcases q with q | ⟨o, q⟩
    · exact .base (.dK q)
    · exact .fDict q
  | @ref n a q =>
    have hn : ∃ c, h[n]? = some c := by
      have := (List.getElem?_eq_some_iff.mp q).1
      exact ⟨h[n]'(by rw [← R.len]; exact this), List.getElem?_eq_getElem _⟩
    obtain ⟨c, hc⟩ := hn
    simp only [tyD, hc] at e
    cases c with
    | lst ds => cases e; obtain ⟨vs, h1, h2⟩ := R.cell n _ a hc q; exact .base (.lst h1)
    | dct kds => cases e; obtain ⟨vs, h1, h2⟩ := R.cell n _ a hc q; exact .base (.dK h1)
    | ins _ _ => cases e
  | _ => cases e
def cIsi : List D → DH → Option D := fun ds h => match ds with
  | [d, .ty b] => (match tyD h d with | some a => (isi a b).map .bl | none => none)
  | _ => none
theorem dc_isi : DCall X (.builtin "isinstance") cIsi := by
  refine DCall.mk' call_isi fun vs H Q as h ds d R r e q => ?_
  unfold cIsi at e
  split at e
  · rename_i x b
    split at e
    · rename_i T hT
      obtain ⟨k, hk, rfl⟩ := Option.map_eq_some_iff.mp e
      cases r with
      | cons rx rn =>
        cases rn with
        | cons ry rn =>
          cases rn; cases ry
          exact ⟨_, _, _, _, k, rfl, .ty b, tyD_of R rx hT, isi_kit hk, q _ _ (Stp.refl _ _) R (.bl _)⟩
    · cases e
  · cases e
end
end DL


/-! DL: dicts, targets, statements, defs. -/
namespace DL
open PySem L2

/-! ### fields and dicts as lists of pairs -/
section
variable {K : PySem.W.Frag} {H : Hp} {as : AS} {κ : Type} [DecidableEq κ]
def RpF (K : PySem.W.Frag) (H : Hp) (as : AS) (kvs : List (κ × V)) (kds : List (κ × D)) : Prop := kvs.map (·.1) = kds.map (·.1) ∧ RpL K H as (kvs.map (·.2)) (kds.map (·.2))
def lookK (k : κ) (kds : List (κ × D)) : Option D := (kds.find? fun kv => decide (kv.1 = k)).map (·.2)
def putD (k : κ) (d : D) (kds : List (κ × D)) : List (κ × D) :=
  if (kds.any fun kv => decide (kv.1 = k)) = true then kds.map (fun kv => if kv.1 = k then (kv.1, d) else kv) else kds ++ [(k, d)]
def dropD (k : κ) (kds : List (κ × D)) : List (κ × D) := kds.filter fun kv => decide (kv.1 ≠ k)
theorem RpF.nil : RpF K H as ([] : List (κ × V)) [] := ⟨rfl, .nil⟩
theorem RpF.cons {k : κ} {v : V} {d : D} {kvs : List (κ × V)} {kds : List (κ × D)} (r : Rp K H as v d) (q : RpF K H as kvs kds) : RpF K H as ((k, v) :: kvs) ((k, d) :: kds) :=
  ⟨by simp [q.1], .cons r q.2⟩
theorem RpF.uncons {p : κ × V} {kvs : List (κ × V)} {kds : List (κ × D)} (q : RpF K H as (p :: kvs) kds) : ∃ d r, kds = (p.1, d) :: r ∧ Rp K H as p.2 d ∧ RpF K H as kvs r := by
  obtain ⟨h1, h2⟩ := q
  cases kds with
  | nil => simp at h1
  | cons b r =>
    obtain ⟨k, d⟩ := b
    simp only [List.map_cons, List.cons.injEq] at h1
    cases h2 with
    | cons a b => exact ⟨d, r, by rw [h1.1], a, h1.2, b⟩
theorem RpF.len {kvs : List (κ × V)} {kds : List (κ × D)} (q : RpF K H as kvs kds) : kvs.length = kds.length := by
  have := congrArg List.length q.1
  simpa using this
theorem RpF.look {k : κ} : ∀ {kvs : List (κ × V)} {kds : List (κ × D)}, RpF K H as kvs kds → (lookK k kds = none ∧ valV kvs k = none) ∨ ∃ d v, lookK k kds = some d ∧ valV kvs k = some v ∧ Rp K H as v d
  | [], kds, q => by
    have : kds = [] := by
      have := q.len
      cases kds with
      | nil => rfl
      | cons _ _ => simp at this
    subst this
    exact .inl ⟨rfl, rfl⟩
  | p :: kvs, kds, q => by
    obtain ⟨d, r, rfl, h1, h2⟩ := q.uncons
    by_cases c : p.1 = k
    · exact .inr ⟨d, p.2, by simp [lookK, List.find?_cons, c], by simp [valV, List.find?_cons, c], h1⟩
    · have e1 : lookK k ((p.1, d) :: r) = lookK k r := by simp [lookK, List.find?_cons, c]
      have e2 : valV (p :: kvs) k = valV kvs k := valV_neg c
      rw [e1, e2]
      exact RpF.look h2
theorem RpF.any {k : κ} {kvs : List (κ × V)} {kds : List (κ × D)} (q : RpF K H as kvs kds) : (kvs.any fun kv => decide (kv.1 = k)) = kds.any fun kv => decide (kv.1 = k) := by
  have e1 : (kvs.any fun kv => decide (kv.1 = k)) = (kvs.map (·.1)).any fun x => decide (x = k) := by simp [List.any_map, Function.comp_def]
  have e2 : (kds.any fun kv => decide (kv.1 = k)) = (kds.map (·.1)).any fun x => decide (x = k) := by simp [List.any_map, Function.comp_def]
  rw [e1, e2, q.1]
theorem RpF.repl {k : κ} {v : V} {d : D} (r : Rp K H as v d) : ∀ {kvs : List (κ × V)} {kds : List (κ × D)}, RpF K H as kvs kds → RpF K H as (kvs.map fun kv => if kv.1 = k then (kv.1, v) else kv) (kds.map fun kv => if kv.1 = k then (kv.1, d) else kv)
  | [], kds, q => by
    have : kds = [] := by
      have := q.len
      cases kds with
      | nil => rfl
      | cons _ _ => simp at this
    subst this
    exact RpF.nil
  | p :: kvs, kds, q => by
    obtain ⟨d', r', rfl, h1, h2⟩ := q.uncons
    obtain ⟨pk, pv⟩ := p
    simp only [List.map_cons]
    by_cases c : pk = k
    · rw [if_pos c, if_pos c]
      exact RpF.cons r (RpF.repl r h2)
    · rw [if_neg c, if_neg c]
      exact RpF.cons h1 (RpF.repl r h2)
theorem RpF.append {kvs jvs : List (κ × V)} {kds jds : List (κ × D)} (q : RpF K H as kvs kds) (p : RpF K H as jvs jds) : RpF K H as (kvs ++ jvs) (kds ++ jds) :=
  ⟨by simp [q.1, p.1], by rw [List.map_append, List.map_append]; exact q.2.append p.2⟩
theorem RpF.put {k : κ} {v : V} {d : D} {kvs : List (κ × V)} {kds : List (κ × D)} (q : RpF K H as kvs kds) (r : Rp K H as v d) : RpF K H as (putK kvs k v) (putD k d kds) := by
  unfold putK putD
  rw [q.any]
  split
  · exact RpF.repl r q
  · exact q.append (RpF.cons r RpF.nil)
theorem RpF.drop {k : κ} : ∀ {kvs : List (κ × V)} {kds : List (κ × D)}, RpF K H as kvs kds → RpF K H as (dropK kvs k) (dropD k kds)
  | [], kds, q => by
    have : kds = [] := by
      have := q.len
      cases kds with
      | nil => rfl
      | cons _ _ => simp at this
    subst this
    exact RpF.nil
  | p :: kvs, kds, q => by
    obtain ⟨d', r', rfl, h1, h2⟩ := q.uncons
    obtain ⟨pk, pv⟩ := p
    have ih := RpF.drop (k := k) h2
    unfold dropK dropD at *
    simp only [List.filter_cons]
    by_cases c : pk = k
    · simp only [c, ne_eq, not_true_eq_false, decide_false, Bool.false_eq_true, if_false]
      exact ih
    · simp only [ne_eq, c, not_false_eq_true, decide_true, if_true]
      exact RpF.cons h1 ih
theorem RpF.tr {H' : Hp} {as' : AS} (s : Tr K H as H' as') {kvs : List (κ × V)} {kds : List (κ × D)} (q : RpF K H as kvs kds) : RpF K H' as' kvs kds := ⟨q.1, RpL.tr s _ q.2⟩
/-- the attributes' own put -/
def putFD (f : Str) (d : D) : List (Str × D) → List (Str × D)
  | [] => [(f, d)]
  | (g, w) :: r => if g = f then (g, d) :: r else (g, w) :: putFD f d r
end
/-! the attributes' put and look-up -/
section
variable {K : PySem.W.Frag} {H : Hp} {as : AS}
theorem RpF.putF {f : Str} {v : V} {d : D} (r : Rp K H as v d) : ∀ {kvs : List (Str × V)} {kds : List (Str × D)}, RpF K H as kvs kds → RpF K H as (L2.putF f v kvs) (putFD f d kds)
  | [], kds, q => by
    have : kds = [] := by
      have := q.len
      cases kds with
      | nil => rfl
      | cons _ _ => simp at this
    subst this
    exact RpF.cons r RpF.nil
  | p :: kvs, kds, q => by
    obtain ⟨d', r', rfl, h1, h2⟩ := q.uncons
    obtain ⟨pk, pv⟩ := p
    have ih := RpF.putF (f := f) r h2
    unfold L2.putF putFD
    by_cases c : pk = f
    · rw [if_pos c, if_pos c]
      first
        | exact RpF.cons r h2
        | (rw [c]; exact RpF.cons r h2)
    · rw [if_neg c, if_neg c]
      exact RpF.cons h1 ih
theorem RpF.lookS {f : Str} : ∀ {kvs : List (Str × V)} {kds : List (Str × D)}, RpF K H as kvs kds → (kds.lookup f = none ∧ kvs.lookup f = none) ∨ ∃ d v, kds.lookup f = some d ∧ kvs.lookup f = some v ∧ Rp K H as v d
  | [], kds, q => by
    have : kds = [] := by
      have := q.len
      cases kds with
      | nil => rfl
      | cons _ _ => simp at this
    subst this
    exact .inl ⟨rfl, rfl⟩
  | p :: kvs, kds, q => by
    obtain ⟨d, r, rfl, h1, h2⟩ := q.uncons
    obtain ⟨pk, pv⟩ := p
    rw [List.lookup_cons, List.lookup_cons]
    cases c : f == pk with
    | true => exact .inr ⟨d, pv, rfl, rfl, h1⟩
    | false => exact RpF.lookS h2
end
def keyD : D → Option Key | .int i => some (.inl i) | .str s => some (.inr s) | _ => none
theorem keyD_of {K : PySem.W.Frag} {H : Hp} {as : AS} {v : V} {d : D} {k : Key} (r : Rp K H as v d) (e : keyD d = some k) : v = kV k := by
  cases r <;> cases e <;> rfl
def dctD (h : DH) : D → Option (List (Key × D))
  | .dct ks ds => if ks.length = ds.length then some (ks.zip ds) else none
  | .ref n => match h[n]? with | some (.dct kds) => some kds | _ => none
  | _ => none
section
variable {K : PySem.W.Frag} {H : Hp} {as : AS} {h : DH}
theorem RH.there (R : RH K H as h) {n : Nat} {a : Addr} (q : as.l[n]? = some a) : ∃ c, h[n]? = some c := by
  have := (List.getElem?_eq_some_iff.mp q).1
  exact ⟨h[n]'(by rw [← R.len]; exact this), List.getElem?_eq_getElem _⟩
theorem dctD_rd {v : V} {d : D} {kds : List (Key × D)} (R : RH K H as h) (r : Rp K H as v d) (e : dctD h d = some kds) : ∃ a kvs, v = .ref a ∧ Rd H a (.dK kvs) ∧ RpF K H as kvs kds := by
  cases r with
  | @dct a kvs ks vs ds q n k1 k2 rl =>
    obtain ⟨c, rfl⟩ := ite_some e
    subst k1 k2
    refine ⟨a, kvs, rfl, q, ?_, ?_⟩
    · rw [List.map_fst_zip (by omega)]
    · rw [List.map_snd_zip (by omega)]; exact rl
  | @ref n a q =>
    obtain ⟨c, hc⟩ := R.there q
    simp only [dctD, hc] at e
    cases c with
    | lst ds' => cases e
    | dct kds =>
      cases e
      obtain ⟨kvs, h1, h2, h3⟩ := R.cell n _ a hc q
      exact ⟨a, kvs, rfl, .inl h1, h2, h3⟩
    | ins _ _ => cases e
  | _ => cases e
end
section
variable {X : Cx} {W : WX} {K : PySem.W.Frag} {σ : L2.St} {H : Hp} {Q : VK}
theorem DGet.rd {H : Hp} {a : Addr} {kvs : List (Key × V)} {k : Key} (e : Rd H a (.dK kvs)) : DGet H a (kV k) (valV kvs k) := .inl ⟨kvs, k, e, rfl, rfl⟩
/-- d[k] -/
def dGet : D → D → DH → Option D := fun x y h => match dctD h x, keyD y with | some kds, some k => lookK k kds | _, _ => none
theorem je_dget {o i : Expr} {pos : Pos} {mo mi : EM D} (hu : X.A.units + 1 < cLine) (ho : JE X W o mo) (hi : JE X W i mi) (hs : NoSl i) : JE X W (.Subscript o i pos) (eBin dGet mo mi) := by
  refine PE.imp (pe_dget hu ho hi hs) fun σ H Q t => ?_
  have t' := bin_imp t
  refine t'.mono fun v H1 t2 => t2.mono fun u H2 q => ?_
  obtain ⟨as, h, x, y, d, R, r1, r2, e, q⟩ := q
  unfold dGet at e
  split at e
  · rename_i kds k h1 h2
    obtain ⟨a, kvs, rfl, hd, rf⟩ := dctD_rd R r1 h1
    have := keyD_of r2 h2
    subst this
    rcases rf.look (k := k) with ⟨e1, _⟩ | ⟨d', w, e1, e2, rw'⟩
    · rw [e1] at e; cases e
    · rw [e1] at e
      cases e
      refine ⟨a, w, rfl, ?_, q _ _ (Stp.refl _ _) R rw'⟩
      have := DGet.rd (k := k) hd
      rw [e2] at this
      exact this
  · cases e
/-- k in d -/
def dInK : D → D → DH → Option D := fun x y h => match keyD x, dctD h y with | some k, some kds => some (.bl (lookK k kds).isSome) | _, _ => none
def dNotInK : D → D → DH → Option D := fun x y h => match keyD x, dctD h y with | some k, some kds => some (.bl (!(lookK k kds).isSome)) | _, _ => none
theorem RpF.isSome {as : AS} {k : Key} {kvs : List (Key × V)} {kds : List (Key × D)} (r : RpF K H as kvs kds) : (valV kvs k).isSome = (lookK k kds).isSome := by
  rcases r.look (k := k) with ⟨e1, e2⟩ | ⟨d', w, e1, e2, _⟩ <;> rw [e1, e2] <;> rfl
theorem inK_imp {mi mo : EM D} (t : tOf K W (eBin dInK mi mo) σ H Q) : tDIn (tOf K W mi) (tOf K W mo) σ H Q := by
  refine (bin_imp t).mono fun v H1 t2 => t2.mono fun u H2 ⟨as, h, x, y, d, R, r1, r2, e, q⟩ => ?_
  unfold dInK at e
  split at e
  · rename_i k kds h1 h2
    cases e
    obtain ⟨a, kvs, rfl, hd, rf⟩ := dctD_rd R r2 h2
    have := keyD_of r1 h1
    subst this
    exact ⟨a, _, rfl, DGet.rd hd, by rw [rf.isSome]; exact q _ _ (Stp.refl _ _) R (.bl _)⟩
  · cases e
theorem notInK_imp {mi mo : EM D} (t : tOf K W (eBin dNotInK mi mo) σ H Q) : tDNotIn (tOf K W mi) (tOf K W mo) σ H Q := by
  refine (bin_imp t).mono fun v H1 t2 => t2.mono fun u H2 ⟨as, h, x, y, d, R, r1, r2, e, q⟩ => ?_
  unfold dNotInK at e
  split at e
  · rename_i k kds h1 h2
    cases e
    obtain ⟨a, kvs, rfl, hd, rf⟩ := dctD_rd R r2 h2
    have := keyD_of r1 h1
    subst this
    exact ⟨a, _, rfl, DGet.rd hd, by rw [rf.isSome]; exact q _ _ (Stp.refl _ _) R (.bl _)⟩
  · cases e
section
variable {a b : Expr} {pos : Pos} {ma mb : EM D} (hu : X.A.units + 1 < cLine) (ha : JE X W a ma) (hb : JE X W b mb)
include hu ha hb
theorem je_inK (hm : behindInMarks .In b = false := by rfl) : JE X W (.Compare a [.In] [b] pos) (eBin dInK ma mb) := PE.imp (pe_cmp (pc_din hu ha hb) hm) fun _ _ _ => inK_imp
theorem jt_inK (hm : behindInMarks .In b = false := by rfl) : JT X W (.Compare a [.In] [b] pos) (tBl (eBin dInK ma mb)) := PT.imp (pt_cmp (pc_din hu ha hb) hm) fun _ _ _ t => inK_imp (bl_imp t)
theorem je_notInK (hm : behindInMarks .NotIn b = false := by rfl) : JE X W (.Compare a [.NotIn] [b] pos) (eBin dNotInK ma mb) := PE.imp (pe_cmp (pc_dnotin hu ha hb) hm) fun _ _ _ => notInK_imp
theorem jt_notInK (hm : behindInMarks .NotIn b = false := by rfl) : JT X W (.Compare a [.NotIn] [b] pos) (tBl (eBin dNotInK ma mb)) := PT.imp (pt_cmp (pc_dnotin hu ha hb) hm) fun _ _ _ t => notInK_imp (bl_imp t)
end
/-- d.get(k, x) -/
def eGet2 (mo mk mx : EM D) : EM D := fun ρ h => (mo ρ h).bind fun o h1 => match dctD h1 o with
  | none => .bad
  | some _ => (mk ρ h1).bind fun k h2 => (mx ρ h2).bind fun x h3 => match dctD h3 o, keyD k with | some kds, some k => .ok ((lookK k kds).getD x) h3 | _, _ => .bad
theorem je_get2 {o e f : Expr} {apos cpos : Pos} {mo mk mx : EM D} (hu : X.A.units + 1 < cLine) (ho : JE X W o mo) (he : JE X W e mk) (hf : JE X W f mx) (m : M2 X o "get" apos e f cpos) :
    JE X W (.Call (.Attribute o "get" apos) [e, f] [] cpos) (eGet2 mo mk mx) := by
  refine PE.imp (pe_dget2 hu ho he hf m) fun σ H Q ⟨as, ρ, h, R, w⟩ => ?_
  refine then_E R w fun v H1 as1 h1 x s1 R1 r1 w1 => ?_
  cases c : dctD h1 x with
  | none => simp only [c] at w1; exact False.elim w1
  | some kds0 =>
    simp only [c] at w1
    obtain ⟨a, kvs0, rfl, hd0, _⟩ := dctD_rd R1.h r1 c
    refine ⟨a, rfl, .inl ⟨_, hd0⟩, ?_⟩
    refine then_E R1 w1 fun v2 H2 as2 h2 x2 s2 R2 r2 w2 => ?_
    refine then_E R2 w2 fun v3 H3 as3 h3 x3 s3 R3 r3 w3 => ?_
    have ra := Rp.step R2.h s3 x (Rp.step R1.h s2 x r1)
    have rk := Rp.step R2.h s3 x2 r2
    cases c3 : dctD h3 x with
    | none => simp only [c3] at w3; exact False.elim w3
    | some kds =>
      cases ck : keyD x2 with
      | none => simp only [c3, ck] at w3; exact False.elim w3
      | some k =>
        simp only [c3, ck] at w3
        obtain ⟨a', kvs, e', hd, rf⟩ := dctD_rd R3.h ra c3
        cases e'
        have := keyD_of rk ck
        subst this
        refine ⟨_, DGet.rd hd, w3 as3 H3 (Stp.refl _ _) R3.h _ ?_⟩
        rcases rf.look (k := k) with ⟨e1, e2⟩ | ⟨d', w', e1, e2, rw'⟩
        · rw [e1, e2]; exact r3
        · rw [e1, e2]; exact rw'

/-! ### user's defs -/
abbrev DF := List D → DH → Res D
/-- no exception -/
def noEx {α : Type} (r : Res α) : Res α := match r with | .ex _ _ _ => .bad | r => r
def spOf (K : PySem.W.Frag) (n : Nat) (F : DF) : Sp := fun vs H Q E => vs.length = n ∧ ∃ as ds h, RH K H as h ∧ RpL K H as vs ds ∧ wpR K E as H (F ds h) (fun as' H' d _ => ∀ v, Rp K H' as' v d → Q v H')
def eCall (F : DF) (m : EM (List D)) : EM D := fun ρ h => (m ρ h).bind fun ds h1 => F ds h1
section
variable {k n : Nat} {f C : Addr} {fd : FuncData} {ps : List Str} {F : DF} {x m : Str} {p pos apos : Pos} {e o : Expr} {es : List Expr} {ma : EM (List D)} {mo : EM D}
theorem je_call (G : FnOk X.prog X.w X.K X.mg X.base (L2.CX X.prog X.w) k f fd ps (spOf X.K ps.length F)) (hr : Room k X.A) (hg : Gl X x) (hm : X.mg x = some (.ref f)) (hk : PySem.W.keepIn X.K (.ref f) = true) (hb : Binds X.K fd ps []) (tk : Takes X W)
    (ha : JA X W (e :: es) ma) (hps : (e :: es).length = ps.length) (hlen : ∀ ρ h ds h', ma ρ h = .ok ds h' → ds.length = ps.length) (hdb : (x == ("__debug__" : Str)) = false := by decide) (he : starEach (e :: es) X.env = (false, eval e X.env) :: starEach es X.env := by rfl) (hpl : (backTo pos (starEach es X.env)).any (·.1) = false := by rfl) :
    JE X W (.Call (.Name x p) (e :: es) [] pos) (eCall F ma) := by
  refine PE.imp (pe_callS G hr hg hm hk hb (fun σ => passAt tk σ) ha hdb he hpl) fun σ H Q ⟨as, ρ, h, R, w⟩ => ?_
  cases c : ma ρ h with
  | ok ds h' =>
    have hl := hlen ρ h ds h' c
    refine ⟨as, ρ, h, R, ?_⟩
    have w' := wpR_bind w
    rw [c] at w' ⊢
    intro as1 H1 s1 R1 vs r1
    exact ⟨by rw [r1.length]; exact hl, as1, ds, h', R1, r1, w' as1 H1 s1 R1⟩
  | ex C fs h' =>
    refine ⟨as, ρ, h, R, ?_⟩
    simp only [eCall, c, Res.bind_ex] at w
    rw [c]
    exact w
  | bad => simp only [eCall, c, Res.bind_bad] at w; exact w.elim
end
end
end DL


/-! DL: instances, statements, defs. -/
namespace DL
open PySem L2
theorem aLen_nil : ∀ (ρ : DE) (h : DH) (ds : List D) (h' : DH), aNil ρ h = .ok ds h' → ds.length = 0 := fun _ _ _ _ e => by cases e; rfl
theorem aLen_cons {ma : EM D} {mr : EM (List D)} {n : Nat} (hr : ∀ (ρ : DE) (h : DH) (ds : List D) (h' : DH), mr ρ h = .ok ds h' → ds.length = n) :
    ∀ (ρ : DE) (h : DH) (ds : List D) (h' : DH), aCons ma mr ρ h = .ok ds h' → ds.length = n + 1 := fun ρ h ds h' e => by
  unfold aCons at e
  cases c : ma ρ h with
  | ok d h1 =>
    simp only [c, Res.bind_ok] at e
    cases c2 : mr ρ h1 with
    | ok es h2 =>
      simp only [c2, Res.bind_ok] at e
      cases e
      simp [hr _ _ _ _ c2]
    | ex _ _ _ => simp [c2] at e
    | bad => simp [c2] at e
  | ex _ _ _ => simp [c] at e
  | bad => simp [c] at e
theorem wpR_noEx {K : PySem.W.Frag} {W : Value → Option Addr → Hp → Prop} {E : XK} {as : AS} {H : Hp} {α : Type} {r : Res α} {P : AS → Hp → α → DH → Prop} (w : wpR K W as H (noEx r) P) : wpR K E as H r P := by
  cases r with
  | ok a h => exact w
  | ex _ _ _ => exact False.elim w
  | bad => exact w
section
variable {X : Cx} {W : WX} {K : PySem.W.Frag} {σ : L2.St} {H : Hp} {Q : VK}
section
variable {k n : Nat} {f C : Addr} {fd : FuncData} {ps : List Str} {F : DF} {x m : Str} {p pos apos : Pos} {e o : Expr} {es : List Expr} {ma : EM (List D)} {mo : EM D}
/-- a call that lets no exception out -/
def eCall0 (F : DF) : EM D := fun _ h => noEx (F [] h)
theorem je_call0 (G : FnOk X.prog X.w X.K X.mg X.base (L2.CX X.prog X.w) k f fd ps (spOf X.K 0 F)) (hr : Room k X.A) (hg : Gl X x) (hm : X.mg x = some (.ref f)) (hk : PySem.W.keepIn X.K (.ref f) = true) (hb : Binds X.K fd ps []) (hdb : (x == ("__debug__" : Str)) = false := by decide) :
    JE X W (.Call (.Name x p) [] [] pos) (eCall0 F) :=
  PE.imp (pe_call0 G hr hg hm hk hb .nil passL hdb) fun σ H Q ⟨as, ρ, h, R, w⟩ => ⟨rfl, as, [], h, R.h, .nil, wpR_noEx w⟩
/-- o.m(..) -/
def insD (h : DH) (C : Addr) (m : Str) : D → Bool
  | .ref n => match h[n]? with | some (.ins C' fds) => decide (C' = C) && (fds.lookup m).isNone | _ => false
  | _ => false
theorem insD_rd {as : AS} {h : DH} {v : V} {d : D} {m : Str} (R : RH K H as h) (r : Rp K H as v d) (e : insD h C m d = true) : ∃ a dx fvs, v = .ref a ∧ H a = some (.ins C dx fvs) ∧ fvs.lookup m = none := by
  cases r with
  | @ref n a q =>
    obtain ⟨c, hc⟩ := R.there q
    simp only [insD, hc] at e
    cases c with
    | ins C' fds =>
      simp only [Bool.and_eq_true, decide_eq_true_eq] at e
      obtain ⟨rfl, e⟩ := e
      obtain ⟨dx, fvs, h1, h2⟩ := R.cell n _ a hc q
      refine ⟨a, dx, fvs, rfl, h1, ?_⟩
      rcases RpF.lookS (f := m) h2 with ⟨_, z⟩ | ⟨d', v', z, _⟩
      · exact z
      · rw [z] at e; cases e
    | lst _ => cases e
    | dct _ => cases e
  | _ => cases e
def eMeth (C : Addr) (m : Str) (F : DF) (mo : EM D) (ma : EM (List D)) : EM D := fun ρ h => (mo ρ h).bind fun o h1 => if insD h1 C m o = true then (ma ρ h1).bind fun ds h2 => noEx (F (o :: ds) h2) else .bad
theorem je_meth {pl : Sem Bool} (ho : JE X W o mo) (c : Cls X.K C) (hm : Meth X.K C m f) (G : FnOk X.prog X.w X.K X.mg X.base (L2.CX X.prog X.w) k f fd ps (spOf X.K ps.length F)) (hr : Room k X.A) (hb : Binds X.K fd ps [])
    (ha : JA X W (e :: es) ma) (hlen : ∀ ρ h ds h', ma ρ h = .ok ds h' → ds.length + 1 = ps.length)
    (hst : starEach (e :: es) X.env = (false, eval e X.env) :: starEach es X.env := by rfl) (hpl : (backTo pos (starEach es X.env)).any (·.1) = false := by rfl)
    (ht : eval (.Call (.Attribute o m apos) (e :: es) [] pos) X.env = (do
      let ov ← eval o X.env
      standAt apos.atName
      let (f, first) ← holding [ov] (getMethod ov m pl)
      callWith pos f first (backTo pos (starEach (e :: es) X.env)) (backToKw pos (keywordEach [] X.env))) := by rfl) :
    JE X W (.Call (.Attribute o m apos) (e :: es) [] pos) (eMeth C m F mo ma) := by
  refine PE.imp (pe_meth ho c hm G hr hb .nil passL ha hst hpl ht) fun σ H Q ⟨as, ρ, h, R, w⟩ => ?_
  refine then_E R w fun v H1 as1 h1 x s1 R1 r1 w1 => ?_
  by_cases ci : insD h1 C m x = true
  · simp only [if_pos ci] at w1
    obtain ⟨a, dx, fvs, rfl, hi, hl⟩ := insD_rd R1.h r1 ci
    refine ⟨a, dx, fvs, rfl, hi, hl, ?_⟩
    cases cm : ma ρ h1 with
    | ok ds h' =>
      have hl := hlen ρ h1 ds h' cm
      refine ⟨as1, ρ, h1, R1, ?_⟩
      have w' := wpR_bind w1
      rw [cm] at w' ⊢
      intro as2 H2 s2 R2 vs r2
      rw [List.append_nil]
      exact ⟨by rw [List.length_cons, r2.length]; exact hl, as2, x :: ds, h', R2, .cons (Rp.step R1.h s2 x r1) r2, wpR_noEx (w' as2 H2 s2 R2)⟩
    | ex C fs h' =>
      refine ⟨as1, ρ, h1, R1, ?_⟩
      simp only [cm, Res.bind_ex] at w1
      rw [cm]
      exact w1
    | bad => simp only [cm, Res.bind_bad] at w1; exact w1.elim
  · simp only [if_neg ci] at w1
    exact w1.elim
theorem je_meth0 {pl : Sem Bool} (ho : JE X W o mo) (c : Cls X.K C) (hm : Meth X.K C m f) (G : FnOk X.prog X.w X.K X.mg X.base (L2.CX X.prog X.w) k f fd ps (spOf X.K 1 F)) (hr : Room k X.A) (hb : Binds X.K fd ps [])
    (ht : eval (.Call (.Attribute o m apos) [] [] pos) X.env = (do
      let ov ← eval o X.env
      standAt apos.atName
      let (f, first) ← holding [ov] (getMethod ov m pl)
      callWith pos f first (backTo pos (starEach [] X.env)) (backToKw pos (keywordEach [] X.env))) := by rfl) :
    JE X W (.Call (.Attribute o m apos) [] [] pos) (eMeth C m F mo aNil) := by
  refine PE.imp (pe_meth0 ho c hm G hr hb .nil passL ht) fun σ H Q ⟨as, ρ, h, R, w⟩ => ?_
  refine then_E R w fun v H1 as1 h1 x s1 R1 r1 w1 => ?_
  by_cases ci : insD h1 C m x = true
  · simp only [if_pos ci, aNil, Res.bind_ok] at w1
    obtain ⟨a, dx, fvs, rfl, hi, hl⟩ := insD_rd R1.h r1 ci
    exact ⟨a, dx, fvs, rfl, hi, hl, rfl, as1, [x], h1, R1.h, .cons r1 .nil, wpR_noEx w1⟩
  · simp only [if_neg ci] at w1
    exact w1.elim
/-- C(..): a new instance, then __init__ -/
def eMake (C : Addr) (F : DF) (ma : EM (List D)) : EM D := fun ρ h => (ma ρ h).bind fun ds h1 => (noEx (F (.ref h1.length :: ds) (h1 ++ [.ins C []]))).bind fun r h2 => match r with | .non => .ok (.ref h1.length) h2 | _ => .bad
theorem make_imp {as : AS} {h1 : DH} {ds : List D} {vs : List V} {E : XK} (C : Addr) (R : RH K H as h1) (r : RpL K H as vs ds)
    (w : wpR K E as H ((noEx (F (.ref h1.length :: ds) (h1 ++ [.ins C []]))).bind fun r h2 => match r with | .non => .ok (.ref h1.length) h2 | _ => .bad) (fun as' H' d _ => ∀ v, Rp K H' as' v d → Q v H')) (hn : ds.length + 1 = n) :
    ∀ x dx, H x = none → H dx = none → dx ≠ x → spOf K n F (.ref x :: (vs ++ [])) (upd (upd H dx (.own x)) x (.ins C dx [])) (fun v H2 => v = .non ∧ Q (.ref x) H2) E0 := by
  intro x dx hx hdx ne
  have hx' : upd H dx (.own x) x = none := by rw [upd_ne (Ne.symm ne)]; exact hx
  have S1 : Stp as H as (upd H dx (.own x)) := Stp.grow hdx
  have R1 : RH K (upd H dx (.own x)) as h1 := R.grow hdx
  have S2 : Stp as (upd H dx (.own x)) (as.add x) (upd (upd H dx (.own x)) x (.ins C dx [])) := Stp.add hx'
  have R2 : RH K (upd (upd H dx (.own x)) x (.ins C dx [])) (as.add x) (h1 ++ [.ins C []]) := R1.add hx' ⟨dx, [], upd_same, rfl, .nil⟩
  rw [List.append_nil]
  refine ⟨by rw [List.length_cons, r.length]; exact hn, as.add x, .ref h1.length :: ds, h1 ++ [.ins C []], R2, .cons (.ref (add_get R1)) (RpL.step R1 S2 _ (RpL.step R S1 _ r)), ?_⟩
  have w1 := wpR_bind (wpR_step (S1.trans S2) w)
  refine wpR_mono (wpR_noEx w1) fun as' H' d h' s R' w2 v rv => ?_
  cases rv with
  | non =>
    refine ⟨rfl, w2 as' H' (Stp.refl _ _) R' _ (.ref ?_)⟩
    exact pre_get s.pre (add_get R1)
  | _ => exact False.elim w2
theorem je_make0 (M : Mk X.K C f) (G : FnOk X.prog X.w X.K X.mg X.base (L2.CX X.prog X.w) k f fd ps (spOf X.K 1 F)) (hr : Room (k + 1) X.A) (hg : Gl X x) (hm : X.mg x = some (.ref C)) (hb : Binds X.K fd ps [])
    (hdb : (x == ("__debug__" : Str)) = false := by decide) : JE X W (.Call (.Name x p) [] [] pos) (eMake C F aNil) := by
  refine PE.imp (pe_make0 M G hr hg hm hb .nil passL hdb) fun σ H Q ⟨as, ρ, h, R, w⟩ => ?_
  exact make_imp (E := fun c x H' => W c x σ H') C R.h .nil w rfl
theorem je_make (M : Mk X.K C f) (G : FnOk X.prog X.w X.K X.mg X.base (L2.CX X.prog X.w) k f fd ps (spOf X.K ps.length F)) (hr : Room (k + 1) X.A) (hg : Gl X x) (hm : X.mg x = some (.ref C)) (hb : Binds X.K fd ps [])
    (ha : JA X W (e :: es) ma) (hlen : ∀ ρ h ds h', ma ρ h = .ok ds h' → ds.length + 1 = ps.length) (hdb : (x == ("__debug__" : Str)) = false := by decide) (he : starEach (e :: es) X.env = (false, eval e X.env) :: starEach es X.env := by rfl) (hpl : (backTo pos (starEach es X.env)).any (·.1) = false := by rfl) :
    JE X W (.Call (.Name x p) (e :: es) [] pos) (eMake C F ma) := by
  refine PE.imp (pe_make M G hr hg hm hb .nil passL ha hdb he hpl) fun σ H Q ⟨as, ρ, h, R, w⟩ => ?_
  cases cm : ma ρ h with
  | ok ds h' =>
    have hl := hlen ρ h ds h' cm
    refine ⟨as, ρ, h, R, ?_⟩
    have w' := wpR_bind w
    rw [cm] at w' ⊢
    intro as2 H2 s2 R2 vs r2
    exact make_imp (E := fun c x H' => W c x σ H') C R2 r2 (w' as2 H2 s2 R2) hl
  | ex C fs h' =>
    refine ⟨as, ρ, h, R, ?_⟩
    simp only [eMake, cm, Res.bind_ex] at w
    rw [cm]
    exact w
  | bad => simp only [eMake, cm, Res.bind_bad] at w; exact w.elim
end
/-! attributes -/
def fldD (h : DH) (C : Addr) (f : Str) : D → Option D
  | .ref n => match h[n]? with | some (.ins C' fds) => if C' = C then fds.lookup f else none | _ => none
  | _ => none
def eFld (C : Addr) (f : Str) (mo : EM D) : EM D := fun ρ h => (mo ρ h).bind fun o h1 => orBad (fldD h1 C f o) h1
theorem je_fld {e : Expr} {f : Str} {C : Addr} {pos : Pos} {mo : EM D} (he : JE X W e mo) (c : Cls X.K C) (na : NoAttr X.K C f) (hb : attributeBase e f X.env (eval e X.env) = eval e X.env) : JE X W (.Attribute e f pos) (eFld C f mo) := by
  refine PE.imp (pe_fld he hb) fun σ H Q ⟨as, ρ, h, R, w⟩ => ?_
  refine then_E R w fun v H1 as1 h1 x s1 R1 r1 w1 => ?_
  cases r1 with
  | @ref n a q =>
    obtain ⟨cc, hc⟩ := R1.h.there q
    simp only [fldD, hc] at w1
    cases cc with
    | ins C' fds =>
      by_cases ce : C' = C
      · subst ce
        simp only [if_true] at w1
        obtain ⟨dx, fvs, h1', h2'⟩ := R1.h.cell n _ a hc q
        rcases RpF.lookS (f := f) h2' with ⟨z, _⟩ | ⟨d', v', z, z2, rv⟩
        · rw [z] at w1; exact False.elim w1
        · rw [z] at w1
          exact ⟨a, C', dx, fvs, v', rfl, h1', c, na, z2, w1 as1 H1 (Stp.refl _ _) R1.h _ rv⟩
      · simp only [if_neg ce] at w1; exact False.elim w1
    | lst _ => exact False.elim w1
    | dct _ => exact False.elim w1
  | _ => exact False.elim w1

/-! ### statements -/
end
inductive Fl where | nx | rt (d : D) | bk | ct
inductive SR where | ok (f : Fl) (ρ : DE) (h : DH) | ex (C : Addr) (fs : Option (List Str × List D)) (ρ : DE) (h : DH) | bad
abbrev SM := DE → DH → SR
def wpF (K : PySem.W.Frag) (Dn : Ends) (as' : AS) (H' : Hp) (σ' : L2.St) : Fl → Prop
  | .nx => Dn.nx σ' H'
  | .bk => Dn.bk σ' H'
  | .ct => Dn.ct σ' H'
  | .rt d => ∀ v, Rp K H' as' v d → Dn.rt v H'
def wpS (K : PySem.W.Frag) (W : WX) (as : AS) (H : Hp) (r : SR) (Dn : Ends) : Prop := match r with
  | .ok f ρ' h' => ∀ as' H' σ', Stp as H as' H' → RS K σ' H' as' ρ' h' → wpF K Dn as' H' σ' f
  | .ex C fs ρ' h' => ∀ as' H' σ' x, Stp as H as' H' → RS K σ' H' as' ρ' h' → RX K H' as' x fs → W (.ref C) x σ' H'
  | .bad => False
def tOfS (K : PySem.W.Frag) (W : WX) (m : SM) : TS := fun Dn σ H => ∃ as ρ h, RS K σ H as ρ h ∧ wpS K W as H (m ρ h) Dn
/-- an expression, then a statement -/
def SR.of {α : Type} (ρ : DE) (r : Res α) (k : α → DH → SR) : SR := match r with | .ok a h => k a h | .ex C fs h => .ex C fs ρ h | .bad => .bad
@[simp] theorem SR.of_ok {α : Type} (ρ : DE) (a : α) (h : DH) (k : α → DH → SR) : SR.of ρ (.ok a h) k = k a h := rfl
@[simp] theorem SR.of_ex {α : Type} (ρ : DE) (C fs) (h : DH) (k : α → DH → SR) : SR.of ρ (.ex C fs h) k = .ex C fs ρ h := rfl
@[simp] theorem SR.of_bad {α : Type} (ρ : DE) (k : α → DH → SR) : SR.of ρ (.bad : Res α) k = .bad := rfl
section
variable {X : Cx} {W : WX} {K : PySem.W.Frag} {σ : L2.St} {H : Hp} {Q : VK} {Dn : Ends} {as : AS} {ρ : DE} {h : DH}
theorem wpS_step {as1 : AS} {H1 : Hp} {r : SR} (s : Stp as H as1 H1) (w : wpS K W as H r Dn) : wpS K W as1 H1 r Dn := by
  cases r with
  | ok f ρ' h' => exact fun as' H' σ' s' R => w as' H' σ' (s.trans s') R
  | ex C fs ρ' h' => exact fun as' H' σ' x s' R => w as' H' σ' x (s.trans s') R
  | bad => exact w
theorem wpS_of {α : Type} {r : Res α} {k : α → DH → SR} (R : RS K σ H as ρ h) (w : wpS K W as H (SR.of ρ r k) Dn) : wpR K (fun c x H' => W c x σ H') as H r (fun as1 H1 a h1 => wpS K W as1 H1 (k a h1) Dn) := by
  cases r with
  | ok a h' => exact fun as1 H1 s R1 => wpS_step s w
  | ex C fs h' => exact fun as1 H1 x s R1 rx => w as1 H1 σ x s (R.step s R1) rx
  | bad => exact w
theorem sthen_E {m : EM D} {k : D → DH → SR} (R : RS K σ H as ρ h) (w : wpS K W as H (SR.of ρ (m ρ h) k) Dn) {Q : VK}
    (hq : ∀ v H1 as1 h1 d, Stp as H as1 H1 → RS K σ H1 as1 ρ h1 → Rp K H1 as1 v d → wpS K W as1 H1 (k d h1) Dn → Q v H1) : tOf K W m σ H Q :=
  ⟨as, ρ, h, R, wpR_mono (wpS_of R w) fun as1 H1 d h1 s R1 w1 v r => hq v H1 as1 h1 d s (R.step s R1) r w1⟩
theorem sthen_T {m : EM Bool} {k : Bool → DH → SR} (R : RS K σ H as ρ h) (w : wpS K W as H (SR.of ρ (m ρ h) k) Dn) {Q : Bool → Hp → Prop}
    (hq : ∀ b H1 as1 h1, Stp as H as1 H1 → RS K σ H1 as1 ρ h1 → wpS K W as1 H1 (k b h1) Dn → Q b H1) : tOfT K W m σ H Q :=
  ⟨as, ρ, h, R, wpR_mono (wpS_of R w) fun as1 H1 d h1 s R1 w1 => hq d H1 as1 h1 s (R.step s R1) w1⟩
theorem sthen_L {m : EM (List D)} {k : List D → DH → SR} (R : RS K σ H as ρ h) (w : wpS K W as H (SR.of ρ (m ρ h) k) Dn) {Q : VK}
    (hq : ∀ p vs H1 as1 h1 ds, Stp as H as1 H1 → RS K σ H1 as1 ρ h1 → H1 p = none → RpL K H1 as1 vs ds → wpS K W as1 H1 (k ds h1) Dn → Q (.ref p) (upd H1 p (.lst vs))) : tOfL K W m σ H Q :=
  ⟨as, ρ, h, R, wpR_mono (wpS_of R w) fun as1 H1 d h1 s R1 w1 p vs hp r => hq p vs H1 as1 h1 d s (R.step s R1) hp r w1⟩
theorem wpF_here {f : Fl} {ρ' : DE} {h' : DH} {σ' : L2.St} (w : wpS K W as H (.ok f ρ' h') Dn) (R : RS K σ' H as ρ' h') : wpF K Dn as H σ' f := w as H σ' (Stp.refl _ _) R
end
abbrev JS (X : Cx) (W : WX) (st : Stmt) (m : SM) : Prop := PS X st (tOfS X.K W m)
abbrev JB (X : Cx) (W : WX) (sts : List Stmt) (m : SM) : Prop := PSs X sts (tOfS X.K W m)
section
variable {X : Cx} {W : WX} {pos : Pos}
/-! blocks -/
def sNil : SM := fun ρ h => .ok .nx ρ h
def sSeq (a b : SM) : SM := fun ρ h => match a ρ h with | .ok .nx ρ' h' => b ρ' h' | r => r
theorem jb_nil : JB X W [] sNil := PSs.imp pss_nil fun Dn σ H ⟨as, ρ, h, R, w⟩ => wpF_here (f := .nx) w R
theorem js_pass : JS X W (.Pass pos) sNil := PS.imp ps_pass fun Dn σ H ⟨as, ρ, h, R, w⟩ => wpF_here (f := .nx) w R
theorem seq_imp {a b : SM} {K : PySem.W.Frag} {σ : L2.St} {H : Hp} {Dn : Ends} (t : tOfS K W (sSeq a b) Dn σ H) : tSeq (tOfS K W a) (tOfS K W b) Dn σ H := by
  obtain ⟨as, ρ, h, R, w⟩ := t
  refine ⟨as, ρ, h, R, ?_⟩
  unfold sSeq at w
  cases c : a ρ h with
  | ok f ρ' h' =>
    rw [c] at w
    cases f with
    | nx => exact fun as' H' σ' s R' => ⟨as', ρ', h', R', wpS_step s w⟩
    | rt d => exact w
    | bk => exact w
    | ct => exact w
  | ex C fs ρ' h' => rw [c] at w; exact w
  | bad => rw [c] at w; exact w.elim
theorem jb_cons {st : Stmt} {r : List Stmt} {a b : SM} (h1 : JS X W st a) (h2 : JB X W r b) : JB X W (st :: r) (sSeq a b) := PSs.imp (pss_cons h1 h2) fun _ _ _ => seq_imp
theorem jb_one {st : Stmt} {a : SM} (h1 : JS X W st a) : JB X W [st] a := pss_one h1
/-! simple statements -/
def sBreak : SM := fun ρ h => .ok .bk ρ h
def sCont : SM := fun ρ h => .ok .ct ρ h
theorem js_break : JS X W (.Break pos) sBreak := PS.imp ps_break fun Dn σ H ⟨as, ρ, h, R, w⟩ => wpF_here (f := .bk) w R
theorem js_cont : JS X W (.Continue pos) sCont := PS.imp ps_continue fun Dn σ H ⟨as, ρ, h, R, w⟩ => wpF_here (f := .ct) w R
def sExpr (m : EM D) : SM := fun ρ h => SR.of ρ (m ρ h) fun _ h1 => .ok .nx ρ h1
theorem js_expr {e : Expr} {m : EM D} (he : JE X W e m) (hs : swapsWith e none pos.line X.env = pure false := by rfl) : JS X W (.Expr e pos) (sExpr m) := by
  refine PS.imp (ps_expr he hs) fun Dn σ H ⟨as, ρ, h, R, w⟩ => ?_
  exact sthen_E R w fun v H1 as1 h1 x s1 R1 r1 w1 => wpF_here (f := .nx) w1 R1
def sRet (m : EM D) : SM := fun ρ h => SR.of ρ (m ρ h) fun d h1 => .ok (.rt d) ρ h1
theorem js_ret {e : Expr} {m : EM D} (he : JE X W e m) : JS X W (.Return (some e) pos) (sRet m) := by
  refine PS.imp (ps_ret he) fun Dn σ H ⟨as, ρ, h, R, w⟩ => ?_
  exact sthen_E R w fun v H1 as1 h1 x s1 R1 r1 w1 => wpF_here (f := .rt x) w1 R1 v r1
def sRetN : SM := fun ρ h => .ok (.rt .non) ρ h
theorem js_retN : JS X W (.Return none pos) sRetN := PS.imp ps_retN fun Dn σ H ⟨as, ρ, h, R, w⟩ => wpF_here (f := .rt .non) w R .non .non
def sIf (c : EM Bool) (a b : SM) : SM := fun ρ h => SR.of ρ (c ρ h) fun k h1 => if k = true then a ρ h1 else b ρ h1
theorem js_if {c : Expr} {a b : List Stmt} {mc : EM Bool} {ma mb : SM} (hc : JT X W c mc) (ha : JB X W a ma) (hb : JB X W b mb) : JS X W (.If c a b pos) (sIf mc ma mb) := by
  refine PS.imp (ps_if hc ha hb) fun Dn σ H ⟨as, ρ, h, R, w⟩ => ?_
  refine sthen_T R w fun b H1 as1 h1 s1 R1 w1 => ?_
  cases b with
  | true => exact ⟨as1, ρ, h1, R1, w1⟩
  | false => exact ⟨as1, ρ, h1, R1, w1⟩
/-! targets -/
inductive Tg where | nm (i : Nat) | tp (ts : List Tg)
mutual
def asgT (h : DH) : Tg → D → DE → Option DE
  | .nm i, d, ρ => some (ρ.set i (some d))
  | .tp ts, d, ρ => match tupD d with | some ds => if ds.length = ts.length then asgTs h ts ds ρ else none | none => none
def asgTs (h : DH) : List Tg → List D → DE → Option DE
  | [], [], ρ => some ρ
  | t :: ts, d :: ds, ρ => match asgT h t d ρ with | some ρ' => asgTs h ts ds ρ' | none => none
  | _, _, _ => none
end
mutual
def Tg.slots : Tg → List Nat
  | .nm i => [i]
  | .tp ts => Tg.slotsL ts
def Tg.slotsL : List Tg → List Nat
  | [] => []
  | t :: ts => t.slots ++ Tg.slotsL ts
end
/-- all slots but these stand -/
def Sb (l : List Nat) (σ σ' : L2.St) : Prop := σ'.length = σ.length ∧ ∀ i, i ∉ l → σ'[i]? = σ[i]?
def gOf (K : PySem.W.Frag) (t : Tg) : TG := fun v σ H Q => ∃ as ρ h d ρ', RS K σ H as ρ h ∧ Rp K H as v d ∧ asgT h t d ρ = some ρ' ∧ ∀ σ', RS K σ' H as ρ' h → Sb t.slots σ σ' → Q σ' H
def gsOf (K : PySem.W.Frag) (ts : List Tg) : TGs := fun vs σ H Q => ∃ as ρ h ds ρ', RS K σ H as ρ h ∧ RpL K H as vs ds ∧ asgTs h ts ds ρ = some ρ' ∧ ∀ σ', RS K σ' H as ρ' h → Sb (Tg.slotsL ts) σ σ' → Q σ' H
abbrev JG (X : Cx) (tg : Expr) (t : Tg) : Prop := PG X tg (gOf X.K t)
abbrev JGs (X : Cx) (tg : List Expr) (t : List Tg) : Prop := PGs X tg (gsOf X.K t)
theorem PG.imp {X : Cx} {e : Expr} {t t' : TG} (h : PG X e t) (hi : ∀ v σ H Q, t' v σ H Q → t v σ H Q) : PG X e t' := ⟨fun pins s σ H v u Q I r q => h.run pins s σ H v u Q I r (hi _ _ _ _ q)⟩
theorem PGs.imp {X : Cx} {e : List Expr} {t t' : TGs} (h : PGs X e t) (hi : ∀ v σ H Q, t' v σ H Q → t v σ H Q) : PGs X e t' := ⟨fun pins s σ H v u Q I r q => h.run pins s σ H v u Q I r (hi _ _ _ _ q)⟩
theorem jg_name {i : Nat} {e : Expr} (hg : PG X e (gName i)) : JG X e (.nm i) := by
  refine PG.imp hg fun v σ H Q ⟨as, ρ, h, d, ρ', R, r, e, q⟩ => ?_
  cases e
  exact q _ ⟨R.e.set i r, R.h⟩ ⟨by simp, fun j hj => List.getElem?_set_ne (fun z => hj (by simp [Tg.slots, z]))⟩
theorem jgs_nil : JGs X [] [] := PGs.imp pgs_nil fun v σ H Q ⟨as, ρ, h, ds, ρ', R, r, e, q⟩ => by
  cases r
  · cases e; exact ⟨rfl, q σ R ⟨rfl, fun _ _ => rfl⟩⟩
  · cases e
theorem jgs_cons {e : Expr} {es : List Expr} {t : Tg} {ts : List Tg} (h1 : JG X e t) (h2 : JGs X es ts) (hs : (assignEach (e :: es) X.env).map (·.2) = assign e X.env :: (assignEach es X.env).map (·.2) := by rfl) : JGs X (e :: es) (t :: ts) := by
  refine PGs.imp (pgs_cons h1 h2 hs) fun v σ H Q ⟨as, ρ, h, ds, ρ', R, r, e, q⟩ => ?_
  cases r with
  | nil => cases e
  | @cons v vs d ds r1 r2 =>
    simp only [asgTs] at e
    split at e
    · rename_i ρ1 e1
      exact ⟨v, vs, rfl, as, ρ, h, d, ρ1, R, r1, e1, fun σ1 R1 b1 => ⟨as, ρ1, h, ds, ρ', R1, r2, e, fun σ2 R2 b2 => q σ2 R2 ⟨b2.1.trans b1.1, fun i hi => by
        simp only [Tg.slotsL, List.mem_append, not_or] at hi
        exact (b2.2 i hi.2).trans (b1.2 i hi.1)⟩⟩⟩
    · cases e
theorem jg_tup {es : List Expr} {k : Nat} {ts : List Tg} (hc : X.calm = true) (h : JGs X es ts) (hn : (assignEach es X.env).length = ts.length := by rfl) (hst : (assignEach es X.env).findIdx? (·.1) = none := by rfl) : JG X (.Tuple es k pos) (.tp ts) := by
  refine PG.imp (pg_tup hc h hn hst) fun v σ H Q ⟨as, ρ, h, d, ρ', R, r, e, q⟩ => ?_
  simp only [asgT] at e
  split at e
  · rename_i ds hd
    by_cases c : ds.length = ts.length
    · rw [if_pos c] at e
      obtain ⟨a, vs, rfl, hq, rl⟩ := tupD_rd r hd
      exact ⟨a, vs, rfl, hq, by rw [rl.length, c], as, ρ, h, ds, ρ', R, rl, e, q⟩
    · rw [if_neg c] at e; cases e
  · cases e
/-! assignments -/
def sSet (i : Nat) (m : EM D) : SM := fun ρ h => SR.of ρ (m ρ h) fun d h1 => .ok .nx (ρ.set i (some d)) h1
theorem js_set {i : Nat} {st : Stmt} {te : TE} {m : EM D} (hs : PS X st (tAsg te (gName i))) (hi : ∀ σ H Q, tOf X.K W m σ H Q → te σ H Q) : JS X W st (sSet i m) := by
  refine PS.imp hs fun Dn σ H ⟨as, ρ, h, R, w⟩ => hi _ _ _ ?_
  exact sthen_E R w fun v H1 as1 h1 x s1 R1 r1 w1 => wpF_here (f := .nx) w1 ⟨R1.e.set i r1, R1.h⟩
def sAsg (t : Tg) (m : EM D) : SM := fun ρ h => SR.of ρ (m ρ h) fun d h1 => match asgT h1 t d ρ with | some ρ' => .ok .nx ρ' h1 | none => .bad
theorem js_asg {tg e : Expr} {t : Tg} {m : EM D} (he : JE X W e m) (hg : JG X tg t) (hs : swapsWithSole [tg] e pos.line X.env = pure false := by rfl) (hw : swappedStores [tg] e X.env = pure none := by rfl)
    (h1 : (assignEach [tg] X.env).map (·.2) = [assign tg X.env] := by rfl) : JS X W (.Assign [tg] e pos) (sAsg t m) := by
  refine PS.imp (ps_asg he hg hs hw h1) fun Dn σ H ⟨as, ρ, h, R, w⟩ => ?_
  refine sthen_E R w fun v H1 as1 h1 x s1 R1 r1 w1 => ?_
  split at w1
  · rename_i ρ' e
    exact ⟨as1, ρ, h1, x, ρ', R1, r1, e, fun σ' R' _ => wpF_here (f := .nx) w1 R'⟩
  · exact w1.elim
/-- name op= e, whole numbers -/
def sAug (i : Nat) (g : Int → Int → Int) (m : EM D) : SM := fun ρ h => match ρ[i]? with
  | some (some (.int a)) => SR.of ρ (m ρ h) fun d h1 => match d with | .int b => .ok .nx (ρ.set i (some (.int (g a b)))) h1 | _ => .bad
  | _ => .bad
theorem js_aug {i : Nat} {st : Stmt} {g : Int → Int → Int} {m : EM D} (hs : PS X st (tAug i (tOf X.K W m) (ipI g))) : JS X W st (sAug i g m) := by
  refine PS.imp hs fun Dn σ H ⟨as, ρ, h, R, w⟩ => ?_
  unfold sAug at w
  split at w
  · rename_i a ha
    obtain ⟨v, hv, r⟩ := R.e.get i _ ha
    refine ⟨v, hv, sthen_E R w fun v2 H1 as1 h1 x s1 R1 r1 w1 => ?_⟩
    cases r with
    | int a =>
      cases r1 with
      | int b => exact ⟨a, b, rfl, rfl, wpF_here (f := .nx) w1 ⟨R1.e.set i (.int _), R1.h⟩⟩
      | _ => exact False.elim w1
  · exact w.elim
/-- o.f = e -/
def setFld (h : DH) (C : Addr) (f : Str) (d : D) : D → Option DH
  | .ref n => match h[n]? with | some (.ins C' fds) => if C' = C ∧ fds.length < 1000 then some (h.set n (.ins C (putFD f d fds))) else none | _ => none
  | _ => none
def sFld' (C : Addr) (f : Str) (mo mv : EM D) : SM := fun ρ h => SR.of ρ (mv ρ h) fun d h1 => SR.of ρ (mo ρ h1) fun o h2 => match setFld h2 C f d o with | some h3 => .ok .nx ρ h3 | none => .bad
theorem setFld_rd {K : PySem.W.Frag} {H : Hp} {as : AS} {h h' : DH} {C : Addr} {f : Str} {v y : V} {d o : D} (R : RH K H as h) (r : Rp K H as v o) (ry : Rp K H as y d) (e : setFld h C f d o = some h') :
    ∃ a dx fvs, v = .ref a ∧ H a = some (.ins C dx fvs) ∧ fvs.length < 1000 ∧ a ∈ as.l ∧ RH K (upd H a (.ins C dx (L2.putF f y fvs))) as h' := by
  cases r with
  | @ref n a q =>
    obtain ⟨c, hc⟩ := R.there q
    simp only [setFld, hc] at e
    cases c with
    | ins C' fds =>
      obtain ⟨⟨rfl, hl⟩, rfl⟩ := ite_some e
      obtain ⟨dx, fvs, h1, h2⟩ := R.cell n _ a hc q
      have hl2 : fvs.length < 1000 := by rw [RpF.len (K := K) (H := H) (as := as) h2]; exact hl
      have m : a ∈ as.l := List.mem_of_getElem? q
      refine ⟨a, dx, fvs, rfl, h1, hl2, m, R.wr q ⟨dx, _, upd_same, ?_⟩⟩
      exact RpF.tr ((Stp.wr m).tr R) (RpF.putF ry h2)
    | lst _ => cases e
    | dct _ => cases e
  | _ => cases e
theorem js_fld {o value : Expr} {f : Str} {C : Addr} {pos' : Pos} {mo mv : EM D} (ho : JE X W o mo) (hv : JE X W value mv) (c : Cls X.K C) (na : NoAttr X.K C f) (hs : swapsWith value (some (.Attribute o f pos')) pos.line X.env = pure false) :
    JS X W (.Assign [.Attribute o f pos'] value pos) (sFld' C f mo mv) := by
  refine PS.imp (ps_fld ho hv hs) fun Dn σ H ⟨as, ρ, h, R, w⟩ => ?_
  refine sthen_E R w fun y H1 as1 h1 d s1 R1 r1 w1 => ?_
  refine sthen_E R1 w1 fun v H2 as2 h2 od s2 R2 r2 w2 => ?_
  split at w2
  · rename_i h3 e
    have ry := Rp.step R1.h s2 d r1
    obtain ⟨a, dx, fvs, rfl, hi, hl, m, R3⟩ := setFld_rd R2.h r2 ry e
    refine ⟨a, C, dx, fvs, rfl, hi, c, na, hl, ?_⟩
    exact w2 as2 _ σ (Stp.wr m) ⟨R2.e.step R2.h (Stp.wr m), R3⟩
  · exact w2.elim
/-- o.f op= e, whole numbers -/
def rI2 (g : Int → Int → Int) : V → V → Hp → VK → Prop := fun x y H Q => ∃ i j, x = .int i ∧ y = .int j ∧ Q (.int (g i j)) H
def sFldAug' (C : Addr) (f : Str) (g : Int → Int → Int) (mo mv : EM D) : SM := fun ρ h => SR.of ρ (mo ρ h) fun o h1 => match fldD h1 C f o with
  | some (.int i) => SR.of ρ (mv ρ h1) fun d h2 => (match d with | .int j => (match fldD h2 C f o, setFld h2 C f (.int (g i j)) o with | some (.int i'), some h3 => if i' = i then .ok .nx ρ h3 else .bad | _, _ => .bad) | _ => .bad)
  | _ => .bad
theorem js_fldaug {op : Operator} {rd : V → V → Hp → VK → Prop} {o value : Expr} {f : Str} {C : Addr} {tpos : Pos} {g : Int → Int → Int} {mo mv : EM D} (ho : JE X W o mo) (hv : JE X W value mv) (hop : InOp X op rd) (c : Cls X.K C) (na : NoAttr X.K C f)
    (hr : ∀ i j H (Q : VK), Q (.int (g i j)) H → rd (.int i) (.int j) H Q) : JS X W (.AugAssign (.Attribute o f tpos) op value pos) (sFldAug' C f g mo mv) := by
  refine PS.imp (ps_fldaug ho hv hop) fun Dn σ H ⟨as, ρ, h, R, w⟩ => ?_
  refine sthen_E R w fun v H1 as1 h1 od s1 R1 r1 w1 => ?_
  split at w1
  · rename_i i hf
    cases r1 with
    | @ref n a q =>
      obtain ⟨cc, hc⟩ := R1.h.there q
      simp only [fldD, hc] at hf
      cases cc with
      | ins C' fds =>
        by_cases ce : C' = C
        · subst ce
          simp only [if_true] at hf
          obtain ⟨dx, fvs, h1', h2'⟩ := R1.h.cell n _ a hc q
          rcases RpF.lookS (f := f) h2' with ⟨z, _⟩ | ⟨d', v', z, z2, rv⟩
          · rw [z] at hf; cases hf
          · rw [z] at hf
            cases hf
            cases rv
            refine ⟨a, C', dx, fvs, _, rfl, h1', c, na, z2, ?_⟩
            refine sthen_E R1 w1 fun y H2 as2 h2 d s2 R2 r2 w2 => ?_
            cases r2 with
            | int j =>
              refine hr i j H2 _ ?_
              simp only at w2
              split at w2
              · rename_i i' h3 hf2 hs2
                by_cases ci : i' = i
                · simp only [if_pos ci] at w2
                  obtain ⟨a', dx', fvs', e', hi, hl, m, R3⟩ := setFld_rd R2.h (.ref (pre_get s2.pre q)) (.int (g i j)) hs2
                  cases e'
                  exact ⟨dx', fvs', hi, hl, w2 as2 _ σ (Stp.wr m) ⟨R2.e.step R2.h (Stp.wr m), R3⟩⟩
                · simp only [if_neg ci] at w2
                  exact w2.elim
              · exact w2.elim
            | _ => exact False.elim w2
        · simp only [if_neg ce] at hf; cases hf
      | lst _ => cases hf
      | dct _ => cases hf
    | _ => cases hf
  · exact w1.elim
end
end DL


/-! DL: loops, comprehensions. -/
namespace DL
open PySem L2

/-! ### what is walked: the items, and what must stay true of the cells -/
abbrev Src := List D × (DH → Bool)
mutual
def D.beq : D → D → Bool
  | .non, .non => true
  | .bl a, .bl b => a == b
  | .int a, .int b => a == b
  | .str a, .str b => a == b
  | .ref a, .ref b => a == b
  | .ty a, .ty b => a == b
  | .tup a, .tup b => D.beqL a b
  | .kt a, .kt b => D.beqL a b
  | .lst a, .lst b => D.beqL a b
  | .fz a, .fz b => D.beqL a b
  | .dct k a, .dct j b => decide (k = j) && D.beqL a b
  | _, _ => false
def D.beqL : List D → List D → Bool
  | [], [] => true
  | a :: as, b :: bs => D.beq a b && D.beqL as bs
  | _, _ => false
end
mutual
theorem D.beq_eq : ∀ (a b : D), D.beq a b = true → a = b
  | .non, b, h => by cases b <;> first | rfl | cases h
  | .bl a, b, h => by cases b <;> first | (simp [D.beq] at h; rw [h]) | cases h
  | .int a, b, h => by cases b <;> first | (simp [D.beq] at h; rw [h]) | cases h
  | .str a, b, h => by cases b <;> first | (simp [D.beq] at h; rw [h]) | cases h
  | .ref a, b, h => by cases b <;> first | (simp [D.beq] at h; rw [h]) | cases h
  | .ty a, b, h => by cases b <;> first | (simp [D.beq] at h; rw [h]) | cases h
  | .tup a, b, h => by cases b <;> first | (rw [D.beqL_eq _ _ h]) | cases h
  | .kt a, b, h => by cases b <;> first | (rw [D.beqL_eq _ _ h]) | cases h
  | .lst a, b, h => by cases b <;> first | (rw [D.beqL_eq _ _ h]) | cases h
  | .fz a, b, h => by cases b <;> first | (rw [D.beqL_eq _ _ h]) | cases h
  | .dct k a, b, h => by
    cases b <;> first | (simp only [D.beq, Bool.and_eq_true, decide_eq_true_eq] at h; rw [h.1, D.beqL_eq _ _ h.2]) | cases h
theorem D.beqL_eq : ∀ (a b : List D), D.beqL a b = true → a = b
  | [], b, h => by cases b <;> first | rfl | cases h
  | a :: as, b, h => by
    cases b with
    | nil => cases h
    | cons b bs =>
      simp only [D.beqL, Bool.and_eq_true] at h
      rw [D.beq_eq _ _ h.1, D.beqL_eq _ _ h.2]
end
mutual
theorem D.beq_rfl : ∀ (a : D), D.beq a a = true
  | .non => rfl
  | .bl a => by simp [D.beq]
  | .int a => by simp [D.beq]
  | .str a => by simp [D.beq]
  | .ref a => by simp [D.beq]
  | .ty a => by simp [D.beq]
  | .tup a => by simp [D.beq, D.beqL_rfl a]
  | .kt a => by simp [D.beq, D.beqL_rfl a]
  | .lst a => by simp [D.beq, D.beqL_rfl a]
  | .fz a => by simp [D.beq, D.beqL_rfl a]
  | .dct k a => by simp [D.beq, D.beqL_rfl a]
theorem D.beqL_rfl : ∀ (a : List D), D.beqL a a = true
  | [] => rfl
  | a :: as => by simp [D.beqL, D.beq_rfl a, D.beqL_rfl as]
end
/-- the cell holds the list still -/
def sameL (n : Nat) (ds : List D) (h : DH) : Bool := match h[n]? with | some (.lst es) => D.beqL es ds | _ => false
theorem sameL_eq {n : Nat} {ds : List D} {h : DH} (e : sameL n ds h = true) : h[n]? = some (.lst ds) := by
  unfold sameL at e
  split at e
  · rename_i es he
    rw [he, D.beqL_eq _ _ e]
  · cases e
@[simp] theorem sameL_of {n : Nat} {ds : List D} {h : DH} (e : h[n]? = some (.lst ds)) : sameL n ds h = true := by simp [sameL, e, D.beqL_rfl]
/-- a step that may ban more -/
structure Stw (as : AS) (H : Hp) (as' : AS) (H' : Hp) : Prop where
  pre : ∃ t, as'.l = as.l ++ t
  keep : ∀ a o, H a = some o → a ∉ as.l → H' a = some o ∧ a ∉ as'.l ∧ (a ∉ as.bn → a ∉ as'.bn)
theorem Stp.w {as as' : AS} {H H' : Hp} (s : Stp as H as' H') : Stw as H as' H' := ⟨s.pre, fun a o e n => let ⟨x, y⟩ := s.keep a o e n; ⟨x, y, fun z => by rw [s.bn]; exact z⟩⟩
theorem Stw.tr {K : PySem.W.Frag} {as as' : AS} {H H' : Hp} {h : DH} (R : RH K H as h) (s : Stw as H as' H') : Tr K H as H' as' :=
  ⟨s.pre, fun a vs r => (s.keep a _ r (R.not_tup r)).1, fun a o e n => let ⟨x, y, z⟩ := s.keep a o e n.1; ⟨x, y, z n.2⟩⟩
def WkOk (K : PySem.W.Frag) (as1 : AS) (H1 : Hp) (s : Src) (J : It) : Prop :=
  ∃ G Y, Walk J s.1.length G Y ∧ (∀ as2 H2 h2, Stw as1 H1 as2 H2 → RH K H2 as2 h2 → s.2 h2 = true → G H2) ∧
    (∀ i H2 x H3 as2 h2, Stw as1 H1 as2 H2 → RH K H2 as2 h2 → s.2 h2 = true → i < s.1.length → Y i H2 x H3 → Stp as2 H2 as2 H3 ∧ RH K H3 as2 h2 ∧ ∃ d, s.1[i]? = some d ∧ Rp K H3 as2 x d)
def tOfI (K : PySem.W.Frag) (W : WX) (m : EM Src) : TI := fun σ H R => ∃ as ρ h, RS K σ H as ρ h ∧ wpR K (fun c x H' => W c x σ H') as H (m ρ h) (fun as1 H1 s _ => ∀ J, WkOk K as1 H1 s J → R J H1)
abbrev JI (X : Cx) (W : WX) (tg e : Expr) (m : EM Src) : Prop := PI X tg e (tOfI X.K W m)
theorem PI.imp {X : Cx} {tg e : Expr} {t t' : TI} (h : PI X tg e t) (hi : ∀ σ H R, t' σ H R → t σ H R) : PI X tg e t' := ⟨fun pins s σ H R I q => h.run pins s σ H R I (hi _ _ _ q)⟩
section
variable {X : Cx} {W : WX} {K : PySem.W.Frag} {σ : L2.St} {H : Hp} {tg : Expr}
/-- a list that is no cell, or a cell that must stay -/
def srcL (h : DH) : D → Option Src
  | .lst ds => some (ds, fun _ => true)
  | .fz ds => some (ds, fun _ => true)
  | .ref n => match h[n]? with | some (.lst ds) => some (ds, sameL n ds) | _ => none
  | _ => none
def iLst (m : EM D) : EM Src := fun ρ h => (m ρ h).bind fun d h1 => orBad (srcL h1 d) h1
def srcT : D → Option Src
  | .tup ds => some (ds, fun _ => true)
  | .kt ds => some (ds, fun _ => true)
  | _ => none
def iTupD (m : EM D) : EM Src := fun ρ h => (m ρ h).bind fun d h1 => orBad (srcT d) h1
def iNew (m : EM (List D)) : EM Src := fun ρ h => (m ρ h).bind fun ds h1 => .ok (ds, fun _ => true) h1
/-- a walk that yields the items of a list that stays at a -/
theorem wk_list {as1 : AS} {H1 : Hp} {a : Addr} {vs : List V} {ds : List D} {chk : DH → Bool} {h1 : DH} (R1 : RH K H1 as1 h1) (r : RpL K H1 as1 vs ds) (hG : ∀ as2 H2 h2, Stw as1 H1 as2 H2 → RH K H2 as2 h2 → chk h2 = true → SqL K H2 a vs) : WkOk K as1 H1 (ds, chk) (Itl K a) := by
  refine ⟨fun H => SqL K H a vs, YAt vs, ?_, hG, fun i H2 x H3 as2 h2 s R c hi y => ?_⟩
  · have := walk_list (K := K) (a := a) (xs := vs)
    rw [r.length] at this
    exact this
  · obtain ⟨rfl, hx⟩ := y
    obtain ⟨d, h1, h2⟩ := (RpL.tr (s.tr R1) ds r).getV hx
    exact ⟨Stp.refl _ _, R, d, h1, h2⟩
theorem lst_src {as1 : AS} {H1 : Hp} {h1 : DH} {v : V} {d : D} {s : Src} (R : RH K H1 as1 h1) (r : Rp K H1 as1 v d) (e : srcL h1 d = some s) : ∃ a, v = .ref a ∧ (∃ vs, SqL K H1 a vs) ∧ WkOk K as1 H1 s (Itl K a) := by
  cases r with
  | @lst a vs ds q n rl =>
    cases e
    exact ⟨a, rfl, ⟨vs, .inl (.inl q)⟩, wk_list R rl fun as2 H2 h2 s2 _ _ => .inl (.inl (s2.keep a _ q n.1).1)⟩
  | @fz a vs ds q rl =>
    cases e
    rcases q with ⟨q, n⟩ | q
    · exact ⟨a, rfl, ⟨vs, .inl q⟩, wk_list R rl fun as2 H2 h2 s2 _ _ => .inl ((s2.tr R).rd n q).1⟩
    · exact ⟨a, rfl, ⟨vs, sqL_none q⟩, wk_list R rl fun as2 H2 h2 s2 _ _ => sqL_none q⟩
  | @ref n a q =>
    obtain ⟨c, hc⟩ := R.there q
    simp only [srcL, hc] at e
    cases c with
    | lst ds =>
      cases e
      obtain ⟨vs, h1', h2'⟩ := R.cell n _ a hc q
      refine ⟨a, rfl, ⟨vs, .inl (.inl h1')⟩, ?_⟩
      refine ⟨fun H => ∃ us, SqL K H a us ∧ us.length = ds.length, fun i H x H' => H' = H ∧ ∀ us, SqL K H a us → us[i]? = some x, ?_, fun as2 H2 h2 s2 R2 c => ?_, fun i H2 x H3 as2 h2 s2 R2 c hi y => ?_⟩
      · exact ⟨fun i H hi ⟨us, hu, hl⟩ => ⟨us, us[i]'(by rw [hl]; exact hi), hu, List.getElem?_eq_getElem _⟩, fun H ⟨us, hu, hl⟩ => ⟨us, hu, by rw [hl]; exact Nat.le_refl _⟩, fun i H x H' hi hu y => y⟩
      · obtain ⟨us, k1, k2⟩ := R2.cell n _ a (sameL_eq c) (pre_get s2.pre q)
        exact ⟨us, .inl (.inl k1), k2.length⟩
      · obtain ⟨rfl, y⟩ := y
        obtain ⟨us, k1, k2⟩ := R2.cell n _ a (sameL_eq c) (pre_get s2.pre q)
        obtain ⟨d, d1, d2⟩ := k2.getV (y us (.inl (.inl k1)))
        exact ⟨Stp.refl _ _, R2, d, d1, d2⟩
    | dct _ => cases e
    | ins _ _ => cases e
  | _ => cases e
theorem ji_list {e : Expr} {m : EM D} (he : JE X W e m) : JI X W tg e (iLst m) := by
  refine PI.imp (pi_list he) fun σ H Rk ⟨as, ρ, h, R, w⟩ => ?_
  refine then_E R w fun v H1 as1 h1 x s1 R1 r1 w1 => ?_
  cases c : srcL h1 x with
  | none => rw [c] at w1; exact w1.elim
  | some s =>
    rw [c] at w1
    obtain ⟨a, rfl, hq, k⟩ := lst_src R1.h r1 c
    exact ⟨a, rfl, hq, w1 as1 H1 (Stp.refl _ _) R1.h _ k⟩
theorem ji_tup {e : Expr} {m : EM D} (he : JE X W e m) : JI X W tg e (iTupD m) := by
  refine PI.imp (pi_tup he) fun σ H Rk ⟨as, ρ, h, R, w⟩ => ?_
  refine then_E R w fun v H1 as1 h1 x s1 R1 r1 w1 => ?_
  have go : ∀ {a : Addr} {vs : List V} {ds : List D}, SqT X.K H1 a vs → (∀ as2 H2 h2, Stw as1 H1 as2 H2 → RH X.K H2 as2 h2 → SqT X.K H2 a vs) → RpL X.K H1 as1 vs ds → WkOk X.K as1 H1 (ds, fun _ => true) (Itt X.K a) := fun {a vs ds} hq hG rl => by
    refine ⟨fun H => SqT X.K H a vs, YAt vs, ?_, fun as2 H2 h2 s2 R2 _ => hG as2 H2 h2 s2 R2, fun i H2 x H3 as2 h2 s2 R2 c hi y => ?_⟩
    · have := walk_tup (K := X.K) (a := a) (xs := vs)
      rw [rl.length] at this
      exact this
    · obtain ⟨rfl, hx⟩ := y
      obtain ⟨d, k1, k2⟩ := (RpL.tr (s2.tr R1.h) _ rl).getV hx
      exact ⟨Stp.refl _ _, R2, d, k1, k2⟩
  cases r1 with
  | @tup a vs ds q rl => exact ⟨a, rfl, ⟨vs, .inl (.inl q)⟩, w1 as1 H1 (Stp.refl _ _) R1.h _ (go (.inl (.inl q)) (fun as2 H2 h2 s2 R2 => .inl (.inl ((s2.tr R1.h).sq _ _ q))) rl)⟩
  | @kt a vs ds q rl => exact ⟨a, rfl, ⟨vs, sqT_none q⟩, w1 as1 H1 (Stp.refl _ _) R1.h _ (go (sqT_none q) (fun _ _ _ _ _ => sqT_none q) rl)⟩
  | _ => exact False.elim w1
theorem ji_new {e : Expr} {m : EM (List D)} (he : JL X W e m) : JI X W tg e (iNew m) := by
  refine PI.imp (pi_list he) fun σ H Rk ⟨as, ρ, h, R, w⟩ => ?_
  refine then_L R w fun p vs H1 as1 h1 ds s1 R1 hp r1 w1 => ?_
  have R2 := R1.h.grow (o := .lst vs) hp
  have np := R1.h.no hp
  refine ⟨p, rfl, ⟨vs, .inl (.inl upd_same)⟩, w1 as1 _ (Stp.grow hp) R2 _ ?_⟩
  exact wk_list R2 (RpL.tr (Tr.grow hp) ds r1) fun as2 H2 h2 s2 _ _ => .inl (.inl (s2.keep p _ upd_same np.1).1)
/-! ranges -/
def rngD (lo : Int) (n : Nat) : List D := (List.range n).map fun i => D.int (lo + (i : Nat))
def rngC (lo c : Int) (n : Nat) : List D := (List.range n).map fun i => D.int (lo + (i : Nat) * c)
def iRange1 (m : EM (List D)) : EM Src := fun ρ h => (m ρ h).bind fun ds h1 => match ds with
  | [.int j] => if -(2 ^ 62) ≤ j ∧ j < 2 ^ 62 then .ok (rngD 0 j.toNat, fun _ => true) h1 else .bad
  | _ => .bad
def iRange2 (m : EM (List D)) : EM Src := fun ρ h => (m ρ h).bind fun ds h1 => match ds with
  | [.int i, .int j] => if -(2 ^ 62) ≤ i ∧ i < 2 ^ 62 ∧ -(2 ^ 62) ≤ j ∧ j < 2 ^ 62 then .ok (rngD i (j - i).toNat, fun _ => true) h1 else .bad
  | _ => .bad
theorem wk_range {as1 : AS} {H1 : Hp} {lo : Int} {n : Nat} : WkOk K as1 H1 (rngD lo n, fun _ => true) (Itr lo n) := by
  refine ⟨fun _ => True, YFn fun i => .int (lo + i), ?_, fun _ _ _ _ _ _ => trivial, fun i H2 x H3 as2 h2 s2 R2 c hi y => ?_⟩
  · have := walk_range (lo := lo) (n := n)
    have e : (rngD lo n).length = n := by simp [rngD]
    show Walk _ (rngD lo n).length _ _
    rw [e]
    exact this
  · obtain ⟨rfl, rfl⟩ := y
    have hi : i < n := by simpa [rngD] using hi
    exact ⟨Stp.refl _ _, R2, .int (lo + (i : Nat)), by simp [rngD, hi], .int _⟩
theorem ji_range1 {a : Expr} {m : EM (List D)} {p pos : Pos} (hg : Gl X "range") (hm : X.mg "range" = none) (ha : JA X W [a] m) (hs : starEach [a] X.env = [(false, eval a X.env)] := by rfl) : JI X W tg (.Call (.Name "range" p) [a] [] pos) (iRange1 m) := by
  refine PI.imp (pi_range1 hg hm ha hs) fun σ H Rk ⟨as, ρ, h, R, w⟩ => ?_
  refine then_A R w fun vs H1 as1 h1 ds s1 R1 r1 w1 => ?_
  split at w1
  · rename_i j
    cases r1 with
    | cons a b =>
      cases b; cases a
      by_cases c : -(2 ^ 62) ≤ j ∧ j < 2 ^ 62
      · rw [if_pos c] at w1
        exact ⟨j, rfl, c.1, c.2, w1 as1 H1 (Stp.refl _ _) R1.h _ wk_range⟩
      · rw [if_neg c] at w1; exact w1.elim
  · exact w1.elim
theorem ji_range2 {a b : Expr} {m : EM (List D)} {p pos : Pos} (hg : Gl X "range") (hm : X.mg "range" = none) (ha : JA X W [a, b] m) (hs : starEach [a, b] X.env = [(false, eval a X.env), (false, eval b X.env)] := by rfl) (hs2 : starEach [b] X.env = [(false, eval b X.env)] := by rfl) :
    JI X W tg (.Call (.Name "range" p) [a, b] [] pos) (iRange2 m) := by
  refine PI.imp (pi_range2 hg hm ha hs hs2) fun σ H Rk ⟨as, ρ, h, R, w⟩ => ?_
  refine then_A R w fun vs H1 as1 h1 ds s1 R1 r1 w1 => ?_
  split at w1
  · rename_i i j
    cases r1 with
    | cons a b =>
      cases b with
      | cons b c =>
        cases c; cases a; cases b
        by_cases c : -(2 ^ 62) ≤ i ∧ i < 2 ^ 62 ∧ -(2 ^ 62) ≤ j ∧ j < 2 ^ 62
        · rw [if_pos c] at w1
          exact ⟨i, j, rfl, c, w1 as1 H1 (Stp.refl _ _) R1.h _ wk_range⟩
        · rw [if_neg c] at w1; exact w1.elim
  · exact w1.elim
end

/-! ### for -/
def forL (chk : DH → Bool) (t : Tg) (b : SM) : List D → SM
  | [], ρ, h => if chk h = true then .ok .nx ρ h else .bad
  | d :: r, ρ, h => if chk h = true then (match asgT h t d ρ with
    | some ρ1 => (match b ρ1 h with
      | .ok .nx ρ2 h2 => forL chk t b r ρ2 h2
      | .ok .ct ρ2 h2 => forL chk t b r ρ2 h2
      | .ok .bk ρ2 h2 => .ok .nx ρ2 h2
      | r' => r')
    | none => .bad) else .bad
def sFor (m : EM Src) (t : Tg) (b : SM) : SM := fun ρ h => SR.of ρ (m ρ h) fun s h1 => forL s.2 t b s.1 ρ h1
section
variable {X : Cx} {W : WX} {K : PySem.W.Frag} {pos : Pos}
theorem sthen_I {σ : L2.St} {H : Hp} {as : AS} {ρ : DE} {h : DH} {Dn : Ends} {m : EM Src} {k : Src → DH → SR} (R : RS K σ H as ρ h) (w : wpS K W as H (SR.of ρ (m ρ h) k) Dn) {Rk : It → Hp → Prop}
    (hq : ∀ J H1 as1 h1 s, Stp as H as1 H1 → RS K σ H1 as1 ρ h1 → WkOk K as1 H1 s J → wpS K W as1 H1 (k s h1) Dn → Rk J H1) : tOfI K W m σ H Rk :=
  ⟨as, ρ, h, R, wpR_mono (wpS_of R w) fun as1 H1 s h1 st R1 w1 J k => hq J H1 as1 h1 s st (R.step st R1) k w1⟩
theorem for_imp {m : EM Src} {t : Tg} {b : SM} {Dn : Ends} {σ : L2.St} {H : Hp} (tt : tOfS K W (sFor m t b) Dn σ H) : tFor (tOfI K W m) (gOf K t) (tOfS K W b) Dn σ H := by
  obtain ⟨as, ρ, h, R, w⟩ := tt
  refine sthen_I R w fun J H1 as1 h1 s s1 R1 wk w1 => ?_
  obtain ⟨G, Y, wa, hG, hY⟩ := wk
  refine for_it wa (fun i σ' H' => ∃ as' ρ' h', Stp as1 H1 as' H' ∧ RS K σ' H' as' ρ' h' ∧ wpS K W as' H' (forL s.2 t b (s.1.drop i) ρ' h') Dn) ⟨as1, ρ, h1, Stp.refl _ _, R1, w1⟩ ?_ ?_ ?_
  · rintro i σ' H' hi ⟨as', ρ', h', st, R', w'⟩
    refine hG as' H' h' st.w R'.h ?_
    by_cases c : s.2 h' = true
    · exact c
    · cases hd : s.1.drop i with
      | nil => rw [hd] at w'; unfold forL at w'; rw [if_neg c] at w'; exact w'.elim
      | cons x r => rw [hd] at w'; unfold forL at w'; rw [if_neg c] at w'; exact w'.elim
  · rintro i x σ' H' H'' hi ⟨as', ρ', h', st, R', w'⟩ y
    have hd : s.1.drop i = s.1[i] :: s.1.drop (i + 1) := List.drop_eq_getElem_cons hi
    rw [hd] at w'
    unfold forL at w'
    by_cases c : s.2 h' = true
    · rw [if_pos c] at w'
      obtain ⟨sy, Ry, d, hdi, rd⟩ := hY i H' x H'' as' h' st.w R'.h c hi y
      have e : d = s.1[i] := by rw [List.getElem?_eq_getElem hi] at hdi; exact (Option.some.inj hdi).symm
      subst e
      have R'' : RS K σ' H'' as' ρ' h' := R'.step sy Ry
      split at w'
      · rename_i ρ1 e1
        refine ⟨as', ρ', h', _, ρ1, R'', rd, e1, fun σ2 R2 _ => ⟨as', ρ1, h', R2, ?_⟩⟩
        have w2 := wpS_step sy w'
        cases hb : b ρ1 h' with
        | ok f ρ2 h2 =>
          rw [hb] at w2
          cases f with
          | nx => exact fun as3 H3 σ3 s3 R3 => ⟨as3, ρ2, h2, (st.trans sy).trans s3, R3, wpS_step s3 w2⟩
          | ct => exact fun as3 H3 σ3 s3 R3 => ⟨as3, ρ2, h2, (st.trans sy).trans s3, R3, wpS_step s3 w2⟩
          | bk => exact w2
          | rt d => exact w2
        | ex C fs ρ2 h2 => rw [hb] at w2; exact w2
        | bad => rw [hb] at w2; exact w2.elim
      · exact w'.elim
    · rw [if_neg c] at w'; exact w'.elim
  · rintro σ' H' ⟨as', ρ', h', st, R', w'⟩
    rw [List.drop_length] at w'
    unfold forL at w'
    by_cases c : s.2 h' = true
    · rw [if_pos c] at w'; exact wpF_here (f := .nx) w' R'
    · rw [if_neg c] at w'; exact w'.elim
theorem js_for {tg iter : Expr} {body : List Stmt} {m : EM Src} {t : Tg} {b : SM} (hp : PassesOwn (model X.prog X.w) X.A X.env X.xe) (hc : X.calm = true) (hi : JI X W tg iter m) (hg : JG X tg t) (hb : JB X W body b)
    (hs : ∀ x, foldedSetIterable iter X.env x = pure x := by intro _; rfl) : JS X W (.For tg iter body [] pos) (sFor m t b) := PS.imp (ps_for hp hc hi hg hb hs) fun _ _ _ => for_imp
/-! ### while -/
def whileN (c : EM Bool) (b : SM) : Nat → SM
  | 0, _, _ => .bad
  | n + 1, ρ, h => SR.of ρ (c ρ h) fun k h1 => if k = true then (match b ρ h1 with
    | .ok .nx ρ2 h2 => whileN c b n ρ2 h2
    | .ok .ct ρ2 h2 => whileN c b n ρ2 h2
    | .ok .bk ρ2 h2 => .ok .nx ρ2 h2
    | r => r) else .ok .nx ρ h1
theorem js_while {test : Expr} {body : List Stmt} {c : EM Bool} {b : SM} (n : Nat) (hp : PassesOwn (model X.prog X.w) X.A X.env X.xe) (hc : JT X W test c) (hb : JB X W body b) : JS X W (.While test body [] pos) (whileN c b n) := by
  refine PS.imp (ps_while hp hc hb) fun Dn σ H ⟨as, ρ, h, R, w⟩ => ?_
  refine ⟨fun m σ' H' => ∃ as' ρ' h', RS X.K σ' H' as' ρ' h' ∧ wpS X.K W as' H' (whileN c b m ρ' h') Dn, ⟨n, as, ρ, h, R, w⟩, ?_⟩
  rintro m σ' H' ⟨as', ρ', h', R', w'⟩
  cases m with
  | zero => exact w'.elim
  | succ m =>
    unfold whileN at w'
    refine sthen_T R' w' fun k H1 as1 h1 s1 R1 w1 => ?_
    cases k with
    | false => exact wpF_here (f := .nx) w1 R1
    | true =>
      rw [if_pos rfl] at w1 ⊢
      refine ⟨fun σ2 H2 => ∃ as2 ρ2 h2, RS X.K σ2 H2 as2 ρ2 h2 ∧ wpS X.K W as2 H2 (whileN c b m ρ2 h2) Dn, fun σ2 H2 q => ⟨m, Nat.lt_succ_self m, q⟩, as1, ρ', h1, R1, ?_⟩
      cases hb' : b ρ' h1 with
      | ok f ρ2 h2 =>
        rw [hb'] at w1
        cases f with
        | nx => exact fun as3 H3 σ3 s3 R3 => ⟨as3, ρ2, h2, R3, wpS_step s3 w1⟩
        | ct => exact fun as3 H3 σ3 s3 R3 => ⟨as3, ρ2, h2, R3, wpS_step s3 w1⟩
        | bk => exact w1
        | rt d => exact w1
      | ex C fs ρ2 h2 => rw [hb'] at w1; exact w1
      | bad => rw [hb'] at w1; exact w1.elim
end

/-! ### comprehensions -/
abbrev W0 : WX := fun _ _ _ _ => False
def wipeD (ρ : DE) : List Nat → DE
  | [] => ρ
  | v :: vs => (wipeD ρ vs).set v none
theorem wipeD_length (ρ : DE) : ∀ vs : List Nat, (wipeD ρ vs).length = ρ.length
  | [] => rfl
  | v :: vs => by unfold wipeD; rw [List.length_set, wipeD_length ρ vs]
theorem wipe_get (σ : L2.St) (i : Nat) : ∀ vs : List Nat, (wipe σ vs)[i]? = if i ∈ vs then (σ[i]?).map (fun _ => none) else σ[i]?
  | [] => by simp [wipe]
  | v :: vs => by
    unfold wipe
    rw [List.getElem?_set]
    have ih := wipe_get σ i vs
    by_cases h : v = i
    · subst h
      rw [if_pos rfl, if_pos List.mem_cons_self, wipe_length]
      by_cases hl : v < σ.length
      · rw [if_pos hl, List.getElem?_eq_getElem hl]; rfl
      · rw [if_neg hl, List.getElem?_eq_none (by omega)]; rfl
    · rw [if_neg h, ih]
      by_cases hm : i ∈ vs
      · rw [if_pos hm, if_pos (List.mem_cons_of_mem _ hm)]
      · rw [if_neg hm, if_neg (fun m => (List.mem_cons.mp m).elim (fun z => h z.symm) hm)]
theorem wipeD_some {ρ : DE} {i : Nat} {d : D} : ∀ {vs : List Nat}, (wipeD ρ vs)[i]? = some (some d) → ρ[i]? = some (some d) ∧ i ∉ vs
  | [], h => ⟨h, by simp⟩
  | v :: vs, h => by
    unfold wipeD at h
    rw [List.getElem?_set] at h
    by_cases hi : v = i
    · rw [if_pos hi] at h
      split at h <;> cases h
    · rw [if_neg hi] at h
      obtain ⟨h1, h2⟩ := wipeD_some h
      exact ⟨h1, by simp only [List.mem_cons, not_or]; exact ⟨fun e => hi e.symm, h2⟩⟩
theorem RE.wipe {K : PySem.W.Frag} {H : Hp} {as : AS} {σ : L2.St} {ρ : DE} (r : RE K H as σ ρ) (vs : List Nat) : RE K H as (wipe σ vs) (wipeD ρ vs) := by
  refine ⟨by rw [wipe_length, wipeD_length, r.len], fun i d h => ?_⟩
  obtain ⟨h1, h2⟩ := wipeD_some h
  obtain ⟨v, e, q⟩ := r.get i d h1
  exact ⟨v, by rw [wipe_get, if_neg h2]; exact e, q⟩
theorem wipe_sb {σ σ2 : L2.St} {vs l : List Nat} (b : Sb l (wipe σ vs) σ2) (hl : ∀ i ∈ l, i ∈ vs) : wipe σ2 vs = wipe σ vs := by
  refine List.ext_getElem? fun i => ?_
  rw [wipe_get]
  by_cases h : i ∈ vs
  · rw [if_pos h, wipe_get, if_pos h]
    have el : σ2.length = σ.length := b.1.trans (wipe_length σ vs)
    by_cases hi : i < σ.length
    · rw [List.getElem?_eq_getElem hi, List.getElem?_eq_getElem (by rw [el]; exact hi)]; rfl
    · rw [List.getElem?_eq_none (by omega), List.getElem?_eq_none (by omega)]
  · rw [if_neg h]
    exact b.2 i fun m => h (hl i m)
def lcL (chk : DH → Bool) (t : Tg) (mt : EM Bool) (me : EM D) (ρ : DE) : List D → List D → DH → Res (List D)
  | [], acc, h => if chk h = true then .ok acc h else .bad
  | d :: r, acc, h => if chk h = true then (match asgT h t d ρ with
    | some ρ1 => (noEx (mt ρ1 h)).bind fun b h2 => if b = true then (noEx (me ρ1 h2)).bind fun y h3 => if acc.length < sizeLine then lcL chk t mt me ρ r (acc ++ [y]) h3 else .bad else lcL chk t mt me ρ r acc h2
    | none => .bad) else .bad
def eLc (m : EM Src) (t : Tg) (mt : EM Bool) (me : EM D) (own : List Nat) : EM (List D) := fun ρ h => (m ρ h).bind fun s h1 => lcL s.2 t mt me (wipeD ρ own) s.1 [] h1
/-- the heap without an object -/
def del (H : Hp) (p : Addr) : Hp := fun a => if a = p then none else H a
theorem del_same {H : Hp} {p : Addr} : DL.del H p p = none := if_pos rfl
theorem del_ne {H : Hp} {p a : Addr} (h : a ≠ p) : DL.del H p a = H a := if_neg h
theorem upd_del {H : Hp} {p : Addr} {o : HO} (h : H p = some o) : upd (DL.del H p) p o = H := by
  funext a
  by_cases e : a = p
  · rw [e, upd_same, h]
  · rw [upd_ne e, del_ne e]
theorem upd_del2 {H : Hp} {p : Addr} {o : HO} : upd (DL.del H p) p o = upd H p o := by
  funext a
  by_cases e : a = p
  · rw [e, upd_same, upd_same]
  · rw [upd_ne e, upd_ne e, del_ne e]
theorem del_upd {H : Hp} {p : Addr} {o : HO} : DL.del (upd H p o) p = DL.del H p := by
  funext a
  by_cases e : a = p
  · rw [e, del_same, del_same]
  · rw [del_ne e, upd_ne e, del_ne e]
theorem del_of {H : Hp} {p : Addr} {o : HO} (h : H p = none) : DL.del (upd H p o) p = H := by
  funext a
  by_cases e : a = p
  · rw [e, del_same, h]
  · rw [del_ne e, upd_ne e]
section
variable {K : PySem.W.Frag} {H : Hp} {as : AS} {h : DH} {p : Addr}
theorem Tr.ban {o : HO} (hp : H p = none) : Tr K H as (upd H p o) (as.ban p) :=
  ⟨⟨[], by simp [AS.ban]⟩, fun a vs r => upd_keep hp r, fun a u e n => ⟨upd_keep hp e, n.1, fun m => by
    rcases List.mem_cons.mp m with m | m
    · exact ne_of_none e hp m
    · exact n.2 m⟩⟩
theorem RH.ban {o : HO} (R : RH K H as h) (hp : H p = none) : RH K (upd H p o) (as.ban p) h :=
  R.tr (Tr.ban hp) rfl (fun a m => upd_ne fun z => R.not_none (z ▸ hp) m) fun b m => by
    rcases List.mem_cons.mp m with m | m
    · exact ⟨⟨o, by rw [m]; exact upd_same⟩, by rw [m]; exact R.not_none hp⟩
    · obtain ⟨⟨o', e⟩, n⟩ := R.bnd b m
      exact ⟨⟨o', upd_keep hp e⟩, n⟩
/-- the ban is taken away, and the object with it -/
def AS.unban (as2 : AS) (bn : List Addr) : AS := ⟨as2.l, bn⟩
theorem Tr.unban {as2 : AS} {bn : List Addr} {H2 : Hp} {xs : List V} (hb : as2.bn = p :: bn) (hp : H2 p = some (.lst xs)) : Tr K H2 as2 (DL.del H2 p) (as2.unban bn) := by
  refine ⟨⟨[], by simp [AS.unban]⟩, fun a vs r => ?_, fun a u e n => ?_⟩
  · rw [del_ne (fun z => by rw [z, hp] at r; cases r)]
    exact r
  · have na : a ≠ p := fun z => n.2 (by rw [hb, z]; exact List.mem_cons_self)
    exact ⟨by rw [del_ne na]; exact e, n.1, fun m => n.2 (by rw [hb]; exact List.mem_cons_of_mem _ m)⟩
theorem RH.unban {as2 : AS} {bn : List Addr} {H2 : Hp} {xs : List V} {h2 : DH} (R : RH K H2 as2 h2) (hb : as2.bn = p :: bn) (hp : H2 p = some (.lst xs)) (np : p ∉ as2.l) (nb : p ∉ bn) : RH K (DL.del H2 p) (as2.unban bn) h2 :=
  R.tr (Tr.unban hb hp) rfl (fun a m => del_ne fun z => np (z ▸ m)) fun b m => by
    obtain ⟨⟨o, e⟩, n⟩ := R.bnd b (by rw [hb]; exact List.mem_cons_of_mem _ m)
    have nb' : b ≠ p := fun z => nb (by rw [← z]; exact m)
    exact ⟨⟨o, by rw [del_ne nb']; exact e⟩, n⟩
end
section
variable {X : Cx} {W : WX} {K : PySem.W.Frag} {pos : Pos}
theorem then_I {α : Type} {σ : L2.St} {H : Hp} {as : AS} {ρ : DE} {h : DH} {m : EM Src} {k : Src → DH → Res α} {P : AS → Hp → α → DH → Prop} (R : RS K σ H as ρ h) (w : wpR K (fun c x H' => W c x σ H') as H ((m ρ h).bind k) P) {Rk : It → Hp → Prop}
    (hq : ∀ J H1 as1 h1 s, Stp as H as1 H1 → RS K σ H1 as1 ρ h1 → WkOk K as1 H1 s J → wpR K (fun c x H' => W c x σ H') as1 H1 (k s h1) P → Rk J H1) : tOfI K W m σ H Rk :=
  ⟨as, ρ, h, R, wpR_mono (wpR_bind w) fun as1 H1 s h1 st R1 w1 J k => hq J H1 as1 h1 s st (R.step st R1) k w1⟩
/-- a step within the block, seen from without: the new list's object is not told -/
theorem Stp.inner {as2 as3 : AS} {bn : List Addr} {H2 H3 : Hp} {p : Addr} {xs : List V} (s : Stp as2 H2 as3 H3) (hb : as2.bn = p :: bn) (hp : H2 p = some (.lst xs)) (np : p ∉ as2.l) :
    Stp (as2.unban bn) (DL.del H2 p) (as3.unban bn) (DL.del H3 p) ∧ as3.bn = p :: bn ∧ H3 p = some (.lst xs) ∧ p ∉ as3.l := by
  obtain ⟨k1, k2⟩ := s.keep p _ hp np
  refine ⟨⟨s.pre, rfl, fun a o e n => ?_⟩, s.bn.trans hb, k1, k2⟩
  have na : a ≠ p := fun z => by rw [z, del_same] at e; cases e
  rw [del_ne na] at e ⊢
  exact s.keep a o e n
theorem lc_imp {m : EM Src} {t : Tg} {mt : EM Bool} {me : EM D} {own : List Nat} {σ : L2.St} {H : Hp} {Q : VK} (hown : ∀ i ∈ t.slots, i ∈ own) (tt : tOfL K W (eLc m t mt me own) σ H Q) :
    tLc (tOfI K W m) (gOf K t) (tOfT K W0 mt) (tOf K W0 me) own σ H Q := by
  obtain ⟨as, ρ, h, R, w⟩ := tt
  refine then_I R w fun J H1 as1 h1 s s1 R1 wk w1 Dl hD => ?_
  obtain ⟨G, Y, wa, hG, hY⟩ := wk
  have nDl : Dl ∉ as1.l := R1.h.not_none hD
  have nDb : Dl ∉ as1.bn := (R1.h.no hD).2
  have toW : ∀ {as2 : AS} {H2 : Hp}, Stp as1 H1 (as2.unban as1.bn) (DL.del H2 Dl) → as2.bn = Dl :: as1.bn → Stw as1 H1 as2 H2 := fun {as2 H2} st e2 => by
    refine ⟨st.pre, fun a o e n => ?_⟩
    obtain ⟨k1, k2⟩ := st.keep a o e n
    have na : a ≠ Dl := fun z => by rw [z, hD] at e; cases e
    rw [del_ne na] at k1
    exact ⟨k1, k2, fun nb m => by
      rw [e2] at m
      exact (List.mem_cons.mp m).elim na nb⟩
  -- the state at a turn: as2, H2 (with the list), the cells h2, what is made so far
  refine lc_it wa (fun i H2 => ∃ as2 h2 accV accD, H2 Dl = some (.lst accV) ∧ as2.bn = Dl :: as1.bn ∧ Dl ∉ as2.l ∧ Stp as1 H1 (as2.unban as1.bn) (DL.del H2 Dl) ∧ RH K H2 as2 h2 ∧ RpL K (DL.del H2 Dl) (as2.unban as1.bn) accV accD ∧
      wpR K (fun c x H' => W c x σ H') (as2.unban as1.bn) (DL.del H2 Dl) (lcL s.2 t mt me (wipeD ρ own) (s.1.drop i) accD h2) (fun as' H' ds _ => ∀ p vs, H' p = none → RpL K H' as' vs ds → Q (.ref p) (upd H' p (.lst vs)))) ?_ ?_ ?_ ?_
  · have e0 : DL.del (upd H1 Dl (.lst [])) Dl = H1 := del_of hD
    refine ⟨as1.ban Dl, h1, [], [], upd_same, rfl, nDl, ?_, R1.h.ban hD, .nil, ?_⟩
    · rw [e0]; exact Stp.refl _ _
    · rw [e0]; exact w1
  · rintro i H2 hi ⟨as2, h2, accV, accD, e1, e2, e3, st, R2, ra, w2⟩
    have ck : s.2 h2 = true := by
      by_cases c : s.2 h2 = true
      · exact c
      · cases hd : s.1.drop i with
        | nil => rw [hd] at w2; unfold lcL at w2; rw [if_neg c] at w2; exact w2.elim
        | cons x r => rw [hd] at w2; unfold lcL at w2; rw [if_neg c] at w2; exact w2.elim
    exact hG as2 H2 h2 (toW st e2) R2 ck
  · rintro i x H2 H3 hi ⟨as2, h2, accV, accD, e1, e2, e3, st, R2, ra, w2⟩ y
    have hd : s.1.drop i = s.1[i] :: s.1.drop (i + 1) := List.drop_eq_getElem_cons hi
    rw [hd] at w2
    unfold lcL at w2
    by_cases c : s.2 h2 = true
    · rw [if_pos c] at w2
      obtain ⟨sy, Ry, d, hdi, rd⟩ := hY i H2 x H3 as2 h2 (toW st e2) R2 c hi y
      have e : d = s.1[i] := by rw [List.getElem?_eq_getElem hi] at hdi; exact (Option.some.inj hdi).symm
      subst e
      have RE3 : RE K H3 as2 (wipe σ own) (wipeD ρ own) := ((R1.e.tr ((toW st e2).tr R1.h)).step R2 sy).wipe own
      split at w2
      · rename_i ρ1 e1'
        refine ⟨as2, wipeD ρ own, h2, _, ρ1, ⟨RE3, Ry⟩, rd, e1', fun σ2 Rσ bσ => ⟨wipe_sb bσ hown, ?_⟩⟩
        cases cm : mt ρ1 h2 with
        | ex _ _ _ => rw [cm] at w2; exact w2.elim
        | bad => rw [cm] at w2; exact w2.elim
        | ok b h4 =>
          rw [cm] at w2
          simp only [noEx, Res.bind_ok] at w2
          refine ⟨as2, ρ1, h2, Rσ, ?_⟩
          rw [cm]
          intro as4 H4 s4 R4
          obtain ⟨in4, b4, d4, n4⟩ := (sy.trans s4).inner e2 e1 e3
          have Ru := R2.unban e2 e1 e3 nDb
          cases b with
          | false =>
            simp only [Bool.false_eq_true, if_false] at w2 ⊢
            exact ⟨as4, h4, accV, accD, d4, b4, n4, st.trans in4, R4, RpL.tr (in4.tr Ru) _ ra, wpR_step in4 w2⟩
          | true =>
            simp only [if_true] at w2 ⊢
            cases ce : me ρ1 h4 with
            | ex _ _ _ => rw [ce] at w2; exact w2.elim
            | bad => rw [ce] at w2; exact w2.elim
            | ok yv h5 =>
              rw [ce] at w2
              simp only [noEx, Res.bind_ok] at w2
              refine ⟨as4, ρ1, h4, ⟨Rσ.e.step Rσ.h s4, R4⟩, ?_⟩
              rw [ce]
              intro as5 H5 s5 R5 v rv
              obtain ⟨in5, b5, d5, n5⟩ := s5.inner b4 d4 n4
              by_cases cl : accD.length < sizeLine
              · rw [if_pos cl] at w2
                have ie := in4.trans in5
                refine ⟨accV, d5, by rw [ra.length]; exact cl, as5, h5, accV ++ [v], accD ++ [yv], upd_same, b5, n5, ?_, ?_, ?_, ?_⟩
                · rw [del_upd]; exact st.trans ie
                · refine R5.tr ⟨⟨[], by simp⟩, fun a vs r => ?_, fun a u e n => ?_⟩ rfl (fun a m => upd_ne fun z => n5 (z ▸ m)) fun b m => ?_
                  · rw [upd_ne (fun z => by rw [z, d5] at r; cases r)]; exact r
                  · have na : a ≠ Dl := fun z => n.2 (by rw [b5, z]; exact List.mem_cons_self)
                    exact ⟨by rw [upd_ne na]; exact e, n⟩
                  · by_cases hb : b = Dl
                    · exact ⟨⟨_, by rw [hb]; exact upd_same⟩, (R5.bnd b m).2⟩
                    · rw [upd_ne hb]; exact R5.bnd b m
                · rw [del_upd]
                  exact (RpL.tr (ie.tr Ru) _ ra).append (.cons (Rp.tr (Tr.unban b5 d5) _ rv) .nil)
                · rw [del_upd]
                  exact wpR_step ie w2
              · rw [if_neg cl] at w2; exact w2.elim
      · exact w2.elim
    · rw [if_neg c] at w2; exact w2.elim
  · rintro H2 ⟨as2, h2, accV, accD, e1, e2, e3, st, R2, ra, w2⟩
    rw [List.drop_length] at w2
    unfold lcL at w2
    by_cases c : s.2 h2 = true
    · rw [if_pos c] at w2
      have q := w2 _ _ (Stp.refl _ _) (R2.unban e2 e1 e3 nDb) Dl accV del_same ra
      rw [upd_del e1] at q
      exact q
    · rw [if_neg c] at w2; exact w2.elim
end
end DL


/-! DL: comprehensions as values, lists and dicts that change, defs. -/
namespace DL
open PySem L2
theorem PTs.imp {X : Cx} {ifs : List Expr} {t t' : TT} (h : PTs X ifs t) (hi : ∀ σ H Q, t' σ H Q → t σ H Q) : PTs X ifs t' := ⟨fun pins s σ H Q I q => h.run pins s σ H Q I (hi _ _ _ q)⟩
abbrev JTs (X : Cx) (W : WX) (ifs : List Expr) (m : EM Bool) : Prop := PTs X ifs (tOfT X.K W m)
def mYes : EM Bool := fun _ h => .ok true h
section
variable {X : Cx} {W : WX} {K : PySem.W.Frag} {pos : Pos} {σ : L2.St} {H : Hp} {Q : VK}
theorem jts_nil : JTs X W [] mYes := PTs.imp pts_nil fun σ H Q ⟨as, ρ, h, R, w⟩ => w as H (Stp.refl _ _) R.h
theorem jts_one {c : Expr} {m : EM Bool} (h : JT X W c m) : JTs X W [c] m := pts_one h
section
variable {elt tg iter : Expr} {ifs : List Expr} {scope : Scope} {own : List (Str × Nat)} {sl : List Nat} {m : EM Src} {t : Tg} {mt : EM Bool} {me : EM D}
theorem jl_lc (hc : X.calm = true) (hN : X.N.Nodup) (hi : JI X W tg iter m) (ok : BlkOk X.N X.env.scope scope own)
    (hg : ∀ (s : Shared) (H : Hp) (C : Addr) (cl : List (Str × Addr)) (fp : List Addr), JG (X.blk s H scope (compEnvC scope cl C X.env) fp) tg t)
    (ht : ∀ (s : Shared) (H : Hp) (C : Addr) (cl : List (Str × Addr)) (fp : List Addr), JTs (X.blk s H scope (compEnvC scope cl C X.env) fp) W0 ifs mt)
    (he : ∀ (s : Shared) (H : Hp) (C : Addr) (cl : List (Str × Addr)) (fp : List Addr), JE (X.blk s H scope (compEnvC scope cl C X.env) fp) W0 elt me)
    (hsl : own.map (·.2) = sl) (hown : ∀ i ∈ t.slots, i ∈ sl) (hs : ∀ x, foldedSetIterable iter X.env x = pure x := by intro _; rfl) : JL X W (.ListComp elt [⟨tg, iter, ifs, 0⟩] scope pos) (eLc m t mt me sl) := by
  subst hsl
  exact PE.imp (pe_lc hc hN hi ok hg ht he hs) fun _ _ _ => lc_imp hown
/-- name = [..], a list that stays | in a cell -/
theorem js_setLc {i : Nat} {y : Str} {py spos : Pos} (hc : X.calm = true) (hN : X.N.Nodup) (hy : X.N[i]? = some y) (hyl : X.env.scope.names.lookup y = some .local)
    (hsw : swapsWith (.ListComp elt [⟨tg, iter, ifs, 0⟩] scope pos) (some (.Name y py)) spos.line X.env = pure true) (hi : JI X W tg iter m) (ok : BlkOk X.N X.env.scope scope own)
    (hg : ∀ (s : Shared) (H : Hp) (C : Addr) (cl : List (Str × Addr)) (fp : List Addr), JG (X.blk s H scope (compEnvC scope cl C X.env) fp) tg t)
    (ht : ∀ (s : Shared) (H : Hp) (C : Addr) (cl : List (Str × Addr)) (fp : List Addr), JTs (X.blk s H scope (compEnvC scope cl C X.env) fp) W0 ifs mt)
    (he : ∀ (s : Shared) (H : Hp) (C : Addr) (cl : List (Str × Addr)) (fp : List Addr), JE (X.blk s H scope (compEnvC scope cl C X.env) fp) W0 elt me)
    (hsl : own.map (·.2) = sl) (hown : ∀ i ∈ t.slots, i ∈ sl) (hs : ∀ x, foldedSetIterable iter X.env x = pure x := by intro _; rfl) :
    JS X W (.Assign [.Name y py] (.ListComp elt [⟨tg, iter, ifs, 0⟩] scope pos) spos) (sSet i (eLst (eLc m t mt me sl))) := by
  subst hsl
  exact js_set (ps_setLc hc hN hy hyl hsw hi ok hg ht he hs) fun _ _ _ t => lc_imp hown (lst_imp t)
theorem js_setLcN {i : Nat} {y : Str} {py spos : Pos} (hc : X.calm = true) (hN : X.N.Nodup) (hy : X.N[i]? = some y) (hyl : X.env.scope.names.lookup y = some .local)
    (hsw : swapsWith (.ListComp elt [⟨tg, iter, ifs, 0⟩] scope pos) (some (.Name y py)) spos.line X.env = pure true) (hi : JI X W tg iter m) (ok : BlkOk X.N X.env.scope scope own)
    (hg : ∀ (s : Shared) (H : Hp) (C : Addr) (cl : List (Str × Addr)) (fp : List Addr), JG (X.blk s H scope (compEnvC scope cl C X.env) fp) tg t)
    (ht : ∀ (s : Shared) (H : Hp) (C : Addr) (cl : List (Str × Addr)) (fp : List Addr), JTs (X.blk s H scope (compEnvC scope cl C X.env) fp) W0 ifs mt)
    (he : ∀ (s : Shared) (H : Hp) (C : Addr) (cl : List (Str × Addr)) (fp : List Addr), JE (X.blk s H scope (compEnvC scope cl C X.env) fp) W0 elt me)
    (hsl : own.map (·.2) = sl) (hown : ∀ i ∈ t.slots, i ∈ sl) (hs : ∀ x, foldedSetIterable iter X.env x = pure x := by intro _; rfl) :
    JS X W (.Assign [.Name y py] (.ListComp elt [⟨tg, iter, ifs, 0⟩] scope pos) spos) (sSet i (eNew (eLc m t mt me sl))) := by
  subst hsl
  exact js_set (ps_setLc hc hN hy hyl hsw hi ok hg ht he hs) fun _ _ _ t => lc_imp hown (new_imp t)
end
theorem js_setE {i : Nat} {x : Str} {e : Expr} {m : EM D} {pos' : Pos} (he : JE X W e m) (hN : X.N.Nodup) (hi : X.N[i]? = some x) (hx : Loc X.env.scope x) (hs : swapsWith e (some (.Name x pos')) pos.line X.env = pure false := by rfl)
    (hf : X.fn x = true ∨ X.env.scope.names.lookup x = some .local := by first | exact .inl rfl | exact .inr rfl | assumption) : JS X W (.Assign [.Name x pos'] e pos) (sSet i m) :=
  js_set (ps_set hN hi hx he hs hf) fun _ _ _ t => t

/-! ### a list in a cell changes -/
def eMut (f : D → List D → DH → Option (D × DH)) (mo : EM D) (ma : EM (List D)) : EM D := fun ρ h => (mo ρ h).bind fun o h1 => match lstD h1 o with
  | some _ => (ma ρ h1).bind fun ds h2 => match f o ds h2 with | some r => .ok r.1 r.2 | none => .bad
  | none => .bad
/-- what a mutating method's rule must give -/
def MutOk (K : PySem.W.Frag) (r : V → List V → Hp → VK → Prop) (f : D → List D → DH → Option (D × DH)) : Prop :=
  ∀ (as : AS) (H : Hp) (h : DH) (v : V) (o : D) (vs : List V) (ds : List D) (d : D) (h' : DH) (Q : VK), RH K H as h → Rp K H as v o → RpL K H as vs ds → f o ds h = some (d, h') →
    (∀ H' z, Stp as H as H' → RH K H' as h' → Rp K H' as z d → Q z H') → r v vs H Q
theorem mut_imp {r : V → List V → Hp → VK → Prop} {f : D → List D → DH → Option (D × DH)} (hm : MutOk K r f) {mo : EM D} {ma : EM (List D)} (t : tOf K W (eMut f mo ma) σ H Q) : tBM K "list" r (tOf K W mo) (tOfA K W ma) σ H Q := by
  obtain ⟨as, ρ, h, R, w⟩ := t
  refine then_E R w fun v H1 as1 h1 o s1 R1 r1 w1 => ?_
  cases c : lstD h1 o with
  | none => simp only [c] at w1; exact w1.elim
  | some ds0 =>
    simp only [c] at w1
    obtain ⟨a, vs0, rfl, hq, _⟩ := lstD_rd R1.h r1 c
    refine ⟨.inl ⟨rfl, _, hq⟩, ?_⟩
    refine then_A R1 w1 fun vs H2 as2 h2 ds s2 R2 r2 w2 => ?_
    cases e : f o ds h2 with
    | none => simp only [e] at w2; exact w2.elim
    | some rr =>
      simp only [e] at w2
      exact hm as2 H2 h2 _ o vs ds rr.1 rr.2 Q R2.h (Rp.step R1.h s2 o r1) r2 e fun H' z s' R' rz => w2 as2 H' s' R' z rz
theorem je_mut {id : String} {name : Str} {o e : Expr} {es : List Expr} {apos cpos : Pos} {r : V → List V → Hp → VK → Prop} {f : D → List D → DH → Option (D × DH)} {mo : EM D} {ma : EM (List D)} (slot : Slot "list" name id) (hty : typeOf (.builtin id) = pure (.type "method_descriptor")) (hm : MtR X id r)
    (hk : MutOk X.K r f) (ho : JE X W o mo) (ha : JA X W (e :: es) ma)
    (hbase : attributeBase o name X.env (eval o X.env) = eval o X.env := by rfl)
    (hfew : ((backTo cpos (starEach (e :: es) X.env)).all (fun x => !x.1) && (backToKw cpos (keywordEach [] X.env)).all (fun x => x.1.isSome)
      && decide ((e :: es).length + ([] : List Keyword).length + (if ([] : List Keyword).isEmpty then 0 else 1) < 30)) = true := by rfl)
    (hline : (apos.endLine == cpos.line) = true := by rfl) (hs : starEach (e :: es) X.env = (false, eval e X.env) :: starEach es X.env := by rfl) (hplain : (backTo cpos (starEach es X.env)).any (·.1) = false := by rfl) :
    JE X W (.Call (.Attribute o name apos) (e :: es) [] cpos) (eMut f mo ma) :=
  PE.imp (pe_bm PySem.F.plainAttrs_list slot hty hm ho ha hbase hfew hline hs hplain) fun _ _ _ => mut_imp hk
def fAppend : D → List D → DH → Option (D × DH) := fun o ds h => match o, ds with
  | .ref n, [y] => (match h[n]? with | some (.lst xs) => if xs.length < sizeLine then some (.non, h.set n (.lst (xs ++ [y]))) else none | _ => none)
  | _, _ => none
theorem mo_append : MutOk K rAppend fAppend := by
  intro as H h v o vs ds d h' Q R r1 r2 e q
  unfold fAppend at e
  split at e
  · split at e
    · rename_i xs hc
      obtain ⟨c, e⟩ := ite_some e
      cases e
      cases r1 with
      | @ref n a qa =>
        cases r2 with
        | cons ry rn =>
          cases rn
          obtain ⟨us, h1, h2⟩ := R.cell _ _ a hc qa
          have m : a ∈ as.l := List.mem_of_getElem? qa
          refine ⟨a, us, _, rfl, rfl, h1, by rw [h2.length]; exact c, q _ _ (Stp.wr m) (R.wr qa ⟨_, upd_same, ?_⟩) .non⟩
          exact (RpL.step R (Stp.wr m) _ h2).append (.cons (Rp.step R (Stp.wr m) _ ry) .nil)
    · cases e
  · cases e
theorem je_append {o e : Expr} {apos cpos : Pos} {mo : EM D} {ma : EM (List D)} (ho : JE X W o mo) (ha : JA X W [e] ma)
    (hbase : attributeBase o "append" X.env (eval o X.env) = eval o X.env := by rfl)
    (hfew : ((backTo cpos (starEach [e] X.env)).all (fun x => !x.1) && (backToKw cpos (keywordEach [] X.env)).all (fun x => x.1.isSome)
      && decide (([e] : List Expr).length + ([] : List Keyword).length + (if ([] : List Keyword).isEmpty then 0 else 1) < 30)) = true := by rfl)
    (hline : (apos.endLine == cpos.line) = true := by rfl) (hs : starEach [e] X.env = (false, eval e X.env) :: starEach [] X.env := by rfl) (hplain : (backTo cpos (starEach [] X.env)).any (·.1) = false := by rfl) :
    JE X W (.Call (.Attribute o "append" apos) [e] [] cpos) (eMut fAppend mo ma) :=
  je_mut PySem.F.slot_list_append PySem.F.type_list_append mt_append mo_append ho ha hbase hfew hline hs hplain

/-! ### dicts -/
/-- a new dict -/
def tOfD (K : PySem.W.Frag) (W : WX) (m : EM (List (Key × D))) : TE := fun σ H Q => ∃ as ρ h, RS K σ H as ρ h ∧ wpR K (fun c x H' => W c x σ H') as H (m ρ h) (fun as' H' kds _ => ∀ p kvs, H' p = none → RpF K H' as' kvs kds → Q (.ref p) (upd H' p (.dK kvs)))
abbrev JD (X : Cx) (W : WX) (e : Expr) (m : EM (List (Key × D))) : Prop := PE X e (tOfD X.K W m)
theorem then_D {α : Type} {as : AS} {ρ : DE} {h : DH} {m : EM (List (Key × D))} {k : List (Key × D) → DH → Res α} {P : AS → Hp → α → DH → Prop} (R : RS K σ H as ρ h) (w : wpR K (fun c x H' => W c x σ H') as H ((m ρ h).bind k) P) {Q : VK}
    (hq : ∀ p kvs H1 as1 h1 kds, Stp as H as1 H1 → RS K σ H1 as1 ρ h1 → H1 p = none → RpF K H1 as1 kvs kds → wpR K (fun c x H' => W c x σ H') as1 H1 (k kds h1) P → Q (.ref p) (upd H1 p (.dK kvs))) : tOfD K W m σ H Q :=
  ⟨as, ρ, h, R, wpR_mono (wpR_bind w) fun as1 H1 d h1 s R1 w1 p vs hp r => hq p vs H1 as1 h1 d s (R.step s R1) hp r w1⟩
def eDct (m : EM (List (Key × D))) : EM D := fun ρ h => (m ρ h).bind fun kds h1 => .ok (.dct (kds.map (·.1)) (kds.map (·.2))) h1
def eNewD (m : EM (List (Key × D))) : EM D := fun ρ h => (m ρ h).bind fun kds h1 => .ok (.ref h1.length) (h1 ++ [.dct kds])
theorem dct_imp {m : EM (List (Key × D))} (t : tOf K W (eDct m) σ H Q) : tOfD K W m σ H Q := by
  obtain ⟨as, ρ, h, R, w⟩ := t
  refine then_D R w fun p vs H1 as1 h1 ds s1 R1 hp r1 w1 => ?_
  exact w1 as1 _ (Stp.grow hp) (R1.h.grow hp) _ (.dct (.inl upd_same) (R1.h.no hp) r1.1 rfl (RpL.tr (Tr.grow hp) _ r1.2))
theorem newD_imp {m : EM (List (Key × D))} (t : tOf K W (eNewD m) σ H Q) : tOfD K W m σ H Q := by
  obtain ⟨as, ρ, h, R, w⟩ := t
  refine then_D R w fun p vs H1 as1 h1 ds s1 R1 hp r1 w1 => ?_
  have rc : RC K (upd H1 p (.dK vs)) (as1.add p) (.dct ds) p := ⟨vs, upd_same, r1.1, RpL.tr (Tr.add hp) _ r1.2⟩
  exact w1 (as1.add p) _ (Stp.add hp) (R1.h.add hp rc) _ (.ref (add_get R1.h))
theorem je_dct {e : Expr} {m : EM (List (Key × D))} (h : JD X W e m) : JE X W e (eDct m) := PE.imp h fun _ _ _ => dct_imp
theorem je_newD {e : Expr} {m : EM (List (Key × D))} (h : JD X W e m) : JE X W e (eNewD m) := PE.imp h fun _ _ _ => newD_imp
def dEmpty : EM (List (Key × D)) := fun _ h => .ok [] h
theorem jd_empty : JD X W (.Dict [] [] pos) dEmpty := PE.imp pe_dnewK fun σ H Q ⟨as, ρ, h, R, w⟩ p hp => w as H (Stp.refl _ _) R.h p [] hp RpF.nil
/-- dict(pairs) -/
def prD : D → Option (Key × D) | .tup [a, b] => (keyD a).map fun k => (k, b) | _ => none
def mergeD (kds more : List (Key × D)) : List (Key × D) := more.foldl (fun acc kv => putD kv.1 kv.2 acc) kds
theorem RpF.merge {as : AS} : ∀ {more : List (Key × V)} {mored : List (Key × D)} {kvs : List (Key × V)} {kds : List (Key × D)}, RpF K H as more mored → RpF K H as kvs kds → RpF K H as (mergeK kvs more) (mergeD kds mored)
  | [], mored, kvs, kds, q, p => by
    have : mored = [] := by
      have := q.len
      cases mored with
      | nil => rfl
      | cons _ _ => simp at this
    subst this
    exact p
  | x :: more, mored, kvs, kds, q, p => by
    obtain ⟨d, r, rfl, h1, h2⟩ := q.uncons
    show RpF K H as (mergeK (putK kvs x.1 x.2) more) (mergeD (putD x.1 d kds) r)
    exact RpF.merge h2 (p.put h1)
def cDictP : List D → DH → Option (List (Key × D)) := fun ds h => match ds with
  | [d] => (match lstD h d with | some es => (allD prD es).map fun ps => mergeD [] ps | none => none)
  | _ => none
def eCBD (g : List D → DH → Option (List (Key × D))) (m : EM (List D)) : EM (List (Key × D)) := fun ρ h => (m ρ h).bind fun ds h1 => orBad (g ds h1) h1
theorem prs_of {as : AS} : ∀ {ds : List D} {vs : List V} {ps : List (Key × D)}, RpL K H as vs ds → allD prD ds = some ps → ∃ (as' : List Addr) (kvs : List (Key × V)), vs = as'.map V.ref ∧ Paired (fun p kv => SqT K H p [kV kv.1, kv.2]) as' kvs ∧ RpF K H as kvs ps
  | [], _, _, r, e => by cases r; cases e; exact ⟨[], [], rfl, .nil, RpF.nil⟩
  | d :: ds, _, _, r, e => by
    cases r with
    | @cons v vs _ _ a b =>
      obtain ⟨n, ns, h1, h2, rfl⟩ := allD_cons e
      obtain ⟨as', kvs, rfl, h4, h5⟩ := prs_of b h2
      unfold prD at h1
      split at h1
      · rename_i x y
        obtain ⟨k, hk, rfl⟩ := Option.map_eq_some_iff.mp h1
        cases a with
        | @tup t us _ q rl =>
          cases rl with
          | @cons v1 _ _ _ r1 rn =>
            cases rn with
            | @cons v2 _ _ _ r2 rn =>
              cases rn
              have := keyD_of r1 hk
              subst this
              exact ⟨t :: as', (k, v2) :: kvs, rfl, .cons (.inl (.inl q)) h4, RpF.cons r2 h5⟩
      · cases h1
theorem jd_dictP {x : Str} {p : Pos} {e : Expr} {m : EM (List D)} (hc : X.calm = true) (hg : Gl X x) (hm : X.mg x = none) (hv : bootBuiltins x = some (.type "dict")) (ha : JA X W [e] m) (hn : x ≠ "__name__" := by decide) (hdb : (x == ("__debug__" : Str)) = false := by decide)
    (he : starEach [e] X.env = (false, eval e X.env) :: starEach [] X.env := by rfl) (hpl : (backTo pos (starEach [] X.env)).any (·.1) = false := by rfl) : JD X W (.Call (.Name x p) [e] [] pos) (eCBD cDictP m) := by
  refine PE.imp (pe_callTy (call_dictP hc) hg hm hv ha hn hdb he hpl) fun σ H Q ⟨as, ρ, h, R, w⟩ => ?_
  refine then_A R w fun vs H1 as1 h1 ds s1 R1 r1 w1 => ?_
  cases e : cDictP ds h1 with
  | none => rw [e] at w1; exact w1.elim
  | some kds =>
    rw [e] at w1
    unfold cDictP at e
    split at e
    · split at e
      · rename_i es hs
        obtain ⟨ps, hp, rfl⟩ := Option.map_eq_some_iff.mp e
        cases r1 with
        | cons rx rn =>
          cases rn
          obtain ⟨a, us, rfl, hq, rl⟩ := lstD_rd R1.h rx hs
          obtain ⟨as', kvs, rfl, k1, k2⟩ := prs_of rl hp
          exact ⟨a, as', kvs, rfl, hq, k1, fun p hp => w1 as1 H1 (Stp.refl _ _) R1.h p _ hp (RpF.merge k2 RpF.nil)⟩
      · cases e
    · cases e
/-- dict(d) -/
def cDictD : List D → DH → Option (List (Key × D)) := fun ds h => match ds with | [d] => dctD h d | _ => none
theorem jd_dictD {x : Str} {p : Pos} {e : Expr} {m : EM (List D)} (hg : Gl X x) (hm : X.mg x = none) (hv : bootBuiltins x = some (.type "dict")) (ha : JA X W [e] m) (hn : x ≠ "__name__" := by decide) (hdb : (x == ("__debug__" : Str)) = false := by decide)
    (he : starEach [e] X.env = (false, eval e X.env) :: starEach [] X.env := by rfl) (hpl : (backTo pos (starEach [] X.env)).any (·.1) = false := by rfl) : JD X W (.Call (.Name x p) [e] [] pos) (eCBD cDictD m) := by
  refine PE.imp (pe_callTy call_dictD hg hm hv ha hn hdb he hpl) fun σ H Q ⟨as, ρ, h, R, w⟩ => ?_
  refine then_A R w fun vs H1 as1 h1 ds s1 R1 r1 w1 => ?_
  cases e : cDictD ds h1 with
  | none => rw [e] at w1; exact w1.elim
  | some kds =>
    rw [e] at w1
    unfold cDictD at e
    split at e
    · cases r1 with
      | cons rx rn =>
        cases rn
        obtain ⟨a, kvs, rfl, hd, rf⟩ := dctD_rd R1.h rx e
        exact ⟨a, kvs, rfl, hd, fun p hp => w1 as1 H1 (Stp.refl _ _) R1.h p _ hp rf⟩
    · cases e
/-- sorted(d), fewer than 64 keys, whole numbers -/
def keyI : Key → Option Int | .inl i => some i | .inr _ => none
def cSortedD : List D → DH → Option (List D) := fun ds h => match ds with
  | [d] => (match dctD h d with | some kds => (match (kds.map (·.1)).mapM keyI with | some ks => if ks.length < 64 then some ((sortI ks).map D.int) else none | none => none) | none => none)
  | _ => none
theorem mapM_keyI : ∀ {ks : List Key} {is : List Int}, ks.mapM keyI = some is → ks = is.map Sum.inl
  | [], is, e => by simp at e; subst e; rfl
  | k :: ks, is, e => by
    rw [List.mapM_cons] at e
    cases k with
    | inr _ => simp [keyI] at e
    | inl i =>
      simp only [keyI, Option.pure_def, Option.bind_eq_bind, Option.bind_some] at e
      cases c : ks.mapM keyI with
      | none => rw [c] at e; simp at e
      | some js =>
        rw [c] at e
        simp at e
        subst e
        simp [mapM_keyI c]
theorem dc_sortedD (hc : X.calm = true) : DCallL X (.builtin "sorted") cSortedD := by
  refine DCallL.mk' (call_sortedDI hc) fun vs H Q as h ds d R r e q => ?_
  unfold cSortedD at e
  split at e
  · split at e
    · rename_i kds hd
      split at e
      · rename_i ks hk
        obtain ⟨c, rfl⟩ := ite_some e
        cases r with
        | cons rx rn =>
          cases rn
          obtain ⟨a, kvs, rfl, hq, rf⟩ := dctD_rd R rx hd
          refine ⟨a, kvs, ks, rfl, hq, by rw [rf.1]; exact mapM_keyI hk, c, fun ys p hp hs hn => ?_⟩
          rw [sortI_eq hp hs]
          exact q p _ hn (rpL_ints _)
      · cases e
    · cases e
  · cases e
theorem Tr.unbanG {as2 : AS} {bn : List Addr} {H2 : Hp} {p : Addr} (hb : as2.bn = p :: bn) (hp : ∀ vs, H2 p ≠ some (.tup vs)) : Tr K H2 as2 (DL.del H2 p) (as2.unban bn) := by
  refine ⟨⟨[], by simp [AS.unban]⟩, fun a vs r => ?_, fun a u e n => ?_⟩
  · rw [del_ne (fun z => by rw [z] at r; exact hp _ r)]
    exact r
  · have na : a ≠ p := fun z => n.2 (by rw [hb, z]; exact List.mem_cons_self)
    exact ⟨by rw [del_ne na]; exact e, n.1, fun m => n.2 (by rw [hb]; exact List.mem_cons_of_mem _ m)⟩
theorem RH.unbanG {as2 : AS} {bn : List Addr} {H2 : Hp} {p : Addr} {h2 : DH} (R : RH K H2 as2 h2) (hb : as2.bn = p :: bn) (hp : ∀ vs, H2 p ≠ some (.tup vs)) (np : p ∉ as2.l) (nb : p ∉ bn) : RH K (DL.del H2 p) (as2.unban bn) h2 :=
  R.tr (Tr.unbanG hb hp) rfl (fun a m => del_ne fun z => np (z ▸ m)) fun b m => by
    obtain ⟨⟨o, e⟩, n⟩ := R.bnd b (by rw [hb]; exact List.mem_cons_of_mem _ m)
    have nb' : b ≠ p := fun z => nb (by rw [← z]; exact m)
    exact ⟨⟨o, by rw [del_ne nb']; exact e⟩, n⟩
/-- {k: v, ..} -/
def mPairs : List (EM D × EM D) → EM (List (D × D))
  | [] => fun _ h => .ok [] h
  | p :: r => fun ρ h => (p.1 ρ h).bind fun k h1 => (p.2 ρ h1).bind fun v h2 => (mPairs r ρ h2).bind fun ps h3 => .ok ((k, v) :: ps) h3
def toKV : List (D × D) → Option (List (Key × D))
  | [] => some []
  | (a, b) :: r => match keyD a with | some k => (toKV r).map ((k, b) :: ·) | none => none
def dDisp (ms : List (EM D × EM D)) : EM (List (Key × D)) := fun ρ h => (noEx (mPairs ms ρ h)).bind fun ps h1 => match toKV ps with | some kds => if kds.length ≤ 15 then .ok (mergeD [] kds) h1 else .bad | none => .bad
def RpP (K : PySem.W.Frag) (H : Hp) (as : AS) (ps : List (V × V)) (ds : List (D × D)) : Prop := RpL K H as (ps.map (·.1)) (ds.map (·.1)) ∧ RpL K H as (ps.map (·.2)) (ds.map (·.2))
theorem toKV_of {as : AS} : ∀ {ds : List (D × D)} {ps : List (V × V)} {kds : List (Key × D)}, RpP K H as ps ds → toKV ds = some kds → ∃ kvs : List (Key × V), ps = kvs.map (fun kv => (kV kv.1, kv.2)) ∧ RpF K H as kvs kds
  | [], [], _, _, e => by cases e; exact ⟨[], rfl, RpF.nil⟩
  | [], _ :: _, _, r, _ => by cases r.1
  | _ :: _, [], _, r, _ => by cases r.1
  | (a, b) :: ds, (v, u) :: ps, kds, r, e => by
    obtain ⟨r1, r2⟩ := r
    simp only [List.map_cons] at r1 r2
    cases r1 with
    | cons ra r1 =>
      cases r2 with
      | cons rb r2 =>
        unfold toKV at e
        split at e
        · rename_i k hk
          obtain ⟨l, e1, rfl⟩ := Option.map_eq_some_iff.mp e
          obtain ⟨kvs, rfl, rf⟩ := toKV_of ⟨r1, r2⟩ e1
          have := keyD_of ra hk
          subst this
          exact ⟨(k, u) :: kvs, rfl, RpF.cons rb rf⟩
        · cases e
abbrev JPs (X : Cx) (W : WX) (pos : Pos) (ks : List (Option Expr)) (vs : List Expr) (ms : List (EM D × EM D)) : Prop := PPs X pos ks vs (ms.map fun p => (tOf X.K W p.1, tOf X.K W p.2))
theorem jps_nil : JPs X W pos [] [] [] := pps_nil
theorem jps_cons {k v : Expr} {ks : List (Option Expr)} {vs : List Expr} {mk mv : EM D} {ms : List (EM D × EM D)} (hk : JE X W k mk) (hv : JE X W v mv) (hr : JPs X W pos ks vs ms) : JPs X W pos (some k :: ks) (v :: vs) ((mk, mv) :: ms) := pps_cons hk hv hr
theorem pairs_imp {α : Type} {ρ : DE} {P : AS → Hp → α → DH → Prop} : ∀ (ms : List (EM D × EM D)) {H : Hp} {as : AS} {h : DH} {k : List (D × D) → DH → Res α} {Q : List (V × V) → Hp → Prop}, RS K σ H as ρ h → wpR K (fun c x H' => W c x σ H') as H ((mPairs ms ρ h).bind k) P →
    (∀ ps H1 as1 h1 ds, Stp as H as1 H1 → RS K σ H1 as1 ρ h1 → RpP K H1 as1 ps ds → wpR K (fun c x H' => W c x σ H') as1 H1 (k ds h1) P → Q ps H1) → tPairs (ms.map fun p => (tOf K W p.1, tOf K W p.2)) σ H Q
  | [], H, as, h, k, Q, R, w, hq => hq [] H as h [] (Stp.refl _ _) R ⟨.nil, .nil⟩ w
  | (mk, mv) :: ms, H, as, h, k, Q, R, w, hq => by
    have e : (mPairs ((mk, mv) :: ms) ρ h).bind k = (mk ρ h).bind fun a h1 => (mv ρ h1).bind fun b h2 => (mPairs ms ρ h2).bind fun ps h3 => k ((a, b) :: ps) h3 := by
      simp only [mPairs]
      cases mk ρ h with
      | ok a h1 =>
        simp only [Res.bind_ok]
        cases mv ρ h1 with
        | ok b h2 =>
          simp only [Res.bind_ok]
          cases mPairs ms ρ h2 <;> rfl
        | ex _ _ _ => rfl
        | bad => rfl
      | ex _ _ _ => rfl
      | bad => rfl
    rw [e] at w
    refine then_E R w fun v H1 as1 h1 a s1 R1 r1 w1 => ?_
    refine then_E R1 w1 fun u H2 as2 h2 b s2 R2 r2 w2 => ?_
    refine pairs_imp ms R2 w2 fun ps H3 as3 h3 ds s3 R3 r3 w3 => ?_
    exact hq _ H3 as3 h3 ((a, b) :: ds) ((s1.trans s2).trans s3) R3 ⟨.cons (Rp.step R2.h s3 _ (Rp.step R1.h s2 _ r1)) r3.1, .cons (Rp.step R2.h s3 _ r2) r3.2⟩ w3
theorem jd_disp {ks : List (Option Expr)} {vs : List Expr} {ms : List (EM D × EM D)} (hp : JPs X W pos ks vs ms) (hall : ks.all (·.isSome) = true := by rfl) (hl : ks.length = vs.length := by rfl) (h0 : ks ≠ [] := by exact fun z => nomatch z) (h15 : ks.length ≤ 15 := by decide) :
    JD X W (.Dict ks vs pos) (dDisp ms) := by
  refine PE.imp (pe_disp hp hall hl h0 h15) fun σ H Q ⟨as, ρ, h, R, w⟩ p hpn => ?_
  have Rb : RS X.K σ (upd H p (.dK [])) (as.ban p) ρ h := ⟨R.e.tr (Tr.ban hpn), R.h.ban hpn⟩
  have np : p ∉ as.l := R.h.not_none hpn
  have nb : p ∉ as.bn := (R.h.no hpn).2
  unfold dDisp at w
  cases cm : mPairs ms ρ h with
  | bad => rw [cm] at w; exact w.elim
  | ex C fs h' => rw [cm] at w; exact w.elim
  | ok ds h' =>
    rw [cm] at w
    simp only [noEx, Res.bind_ok] at w
    refine pairs_imp (W := W) (k := fun ds h1 => Res.ok ds h1) (P := fun as1 H1 a b => a = ds ∧ b = h' ∧ Stp (as.ban p) (upd H p (.dK [])) as1 H1 ∧ RH X.K H1 as1 h') ms Rb ?_ fun ps H1 as1 h1 ds' s1 R1 r1 w1 => ?_
    · rw [cm]
      exact fun as' H' s' R' => ⟨rfl, rfl, s', R'⟩
    · obtain ⟨rfl, rfl, st, RR⟩ := w1 as1 H1 (Stp.refl _ _) R1.h
      have hp1 : H1 p = some (.dK []) := (st.keep p _ upd_same np).1
      have np1 : p ∉ as1.l := (st.keep p _ upd_same np).2
      have hnt : ∀ vs, H1 p ≠ some (.tup vs) := fun vs z => by rw [hp1] at z; cases z
      cases ck : toKV ds' with
      | none => rw [ck] at w; exact w.elim
      | some kds =>
        rw [ck] at w
        obtain ⟨kvs, rfl, rf⟩ := toKV_of r1 ck
        by_cases cl : kds.length ≤ 15
        · simp only [if_pos cl] at w
          refine ⟨hp1, kvs, rfl, by rw [rf.len]; exact cl, ?_⟩
          have S' : Stp as H (as1.unban as.bn) (DL.del H1 p) := by
            refine ⟨st.pre, rfl, fun a o e n => ?_⟩
            have na : a ≠ p := fun z => by rw [z, hpn] at e; cases e
            rw [del_ne na]
            exact st.keep a o (by rw [upd_ne na]; exact e) n
          have T' : Tr X.K H1 as1 (DL.del H1 p) (as1.unban as.bn) := Tr.unbanG st.bn hnt
          have q := w _ _ S' (RH.unbanG RR st.bn hnt np1 nb) p (mergeK [] kvs) del_same ((RpF.merge rf RpF.nil).tr T')
          rw [upd_del2] at q
          exact q
        · simp only [if_neg cl] at w
          exact w.elim
/-- o[i] = v, a dict in a cell -/
def setDct (h : DH) (k d : D) : D → Option DH
  | .ref n => match h[n]?, keyD k with | some (.dct kds), some kk => if kds.length < sizeLine then some (h.set n (.dct (putD kk d kds))) else none | _, _ => none
  | _ => none
def sDPut' (mo mi mv : EM D) : SM := fun ρ h => SR.of ρ (mv ρ h) fun d h1 => SR.of ρ (mo ρ h1) fun o h2 => SR.of ρ (mi ρ h2) fun k h3 => match setDct h3 k d o with | some h4 => .ok .nx ρ h4 | none => .bad
theorem setDct_rd {as : AS} {h h' : DH} {v y u : V} {k d o : D} (R : RH K H as h) (r : Rp K H as v o) (rk : Rp K H as y k) (ry : Rp K H as u d) (e : setDct h k d o = some h') :
    ∃ a H', v = .ref a ∧ DPut H a y u H' ∧ Stp as H as H' ∧ RH K H' as h' := by
  cases r with
  | @ref n a q =>
    obtain ⟨c, hc⟩ := R.there q
    simp only [setDct, hc] at e
    cases c with
    | dct kds =>
      cases ck : keyD k with
      | none => rw [ck] at e; cases e
      | some kk =>
        rw [ck] at e
        obtain ⟨hl, rfl⟩ := ite_some e
        obtain ⟨kvs, h1, h2⟩ := R.cell n _ a hc q
        have rf : RpF K H as kvs kds := h2
        have := keyD_of rk ck
        subst this
        have m : a ∈ as.l := List.mem_of_getElem? q
        refine ⟨a, _, rfl, DPut.k h1 (by rw [rf.len]; exact hl), Stp.wr m, R.wr q ⟨_, upd_same, ?_⟩⟩
        exact RpF.tr ((Stp.wr m).tr R) (rf.put ry)
    | lst _ => cases e
    | ins _ _ => cases e
  | _ => cases e
theorem js_dput {o i value : Expr} {pos' : Pos} {mo mi mv : EM D} (hu : X.A.units + 1 < cLine) (ho : JE X W o mo) (hi : JE X W i mi) (hv : JE X W value mv) (hs : swapsWith value (some (.Subscript o i pos')) pos.line X.env = pure false) :
    JS X W (.Assign [.Subscript o i pos'] value pos) (sDPut' mo mi mv) := by
  refine PS.imp (ps_dput hu ho hi hv hs) fun Dn σ H ⟨as, ρ, h, R, w⟩ => ?_
  refine sthen_E R w fun u H1 as1 h1 d s1 R1 r1 w1 => ?_
  refine sthen_E R1 w1 fun v H2 as2 h2 od s2 R2 r2 w2 => ?_
  refine sthen_E R2 w2 fun y H3 as3 h3 kd s3 R3 r3 w3 => ?_
  split at w3
  · rename_i h4 e
    obtain ⟨a, H', rfl, dp, st, R4⟩ := setDct_rd R3.h (Rp.step R2.h s3 _ r2) r3 (Rp.step R2.h s3 _ (Rp.step R1.h s2 _ r1)) e
    exact ⟨a, H', rfl, dp, w3 as3 H' σ st ⟨R3.e.step R3.h st, R4⟩⟩
  · exact w3.elim
end
end DL


/-! DL: defs. -/
namespace DL
open PySem PySem.Spec PyProof.Rows L2
theorem aLen1 {mr : EM (List D)} {n : Nat} (hr : ∀ (ρ : DE) (h : DH) (ds : List D) (h' : DH), mr ρ h = .ok ds h' → ds.length = n) : ∀ (ρ : DE) (h : DH) (ds : List D) (h' : DH), mr ρ h = .ok ds h' → ds.length + 1 = n + 1 := fun ρ h ds h' e => by rw [hr ρ h ds h' e]
def mDef (k : Nat) (b : SM) : DF := fun ds h => match b (ds.map some ++ List.replicate (k - ds.length) none) h with
  | .ok .nx _ h' => .ok .non h'
  | .ok (.rt d) _ h' => .ok d h'
  | .ex C fs _ h' => .ex C fs h'
  | _ => .bad
section
variable {P : Program} {w : World} {K : PySem.W.Frag} {mg : Str → Option Value} {base : Heap}
theorem RE.atStart {H : Hp} {as : AS} {N : List Str} : ∀ {vs : List V} {ds : List D}, RpL K H as vs ds → RE K H as (L2.start N vs) (ds.map some ++ List.replicate (N.length - ds.length) none) := fun {vs ds} r => by
  have hl := r.length
  refine ⟨by simp [L2.start, hl], fun i d h => ?_⟩
  unfold L2.start
  by_cases hi : i < ds.length
  · rw [List.getElem?_append_left (by simpa using hi), List.getElem?_map] at h
    rw [List.getElem?_append_left (by simpa [hl] using hi), List.getElem?_map]
    cases e : ds[i]? with
    | none => rw [e] at h; cases h
    | some d' =>
      rw [e] at h
      cases h
      obtain ⟨v, h1, h2⟩ := r.get e
      exact ⟨v, by rw [h1]; rfl, h2⟩
  · rw [List.getElem?_append_right (by simpa using hi), List.getElem?_replicate] at h
    split at h <;> cases h
abbrev WE' (E : XK) : WX := fun cls d _ H => E cls d H
/-- THE RULE of a def: its body does what b does -/
theorem def_D {x qual : Str} {st : Stmt} {f : Addr} {fd : FuncData} {N ps : List Str} {k : Nat} {b : SM} (F : Fun K x qual st f fd) (S : FnScope N ps (defScope st))
    (hb : ∀ (cdv : Value) (A : Around) (outer : List Env) (s : Shared) (H : Hp) (E : XK), Room k (A.deeper (envOfC qual (defScope st) s.heap.objs.size f cdv)) →
      Takes (cxOf (L2.CX P w) P w K mg base N qual (defScope st) f cdv A outer s H E) (WE' E) → JB (cxOf (L2.CX P w) P w K mg base N qual (defScope st) f cdv A outer s H E) (WE' E) (defBody st) b) :
    FnOk P w K mg base (L2.CX P w) (k + 1) f fd ps (spOf K ps.length (mDef N.length b)) := by
  refine F.okX S (fun vs H Q E h => h.1) fun cdv A outer s H vs Q E hr h => ?_
  obtain ⟨hl, as, ds, h0, R, rl, wp⟩ := h
  refine ⟨_, hb cdv A outer s H E hr (takes_of rfl rfl rfl rfl), as, ds.map some ++ List.replicate (N.length - ds.length) none, h0, ⟨RE.atStart rl, R⟩, ?_⟩
  unfold mDef at wp
  have hds : ds.length = vs.length := rl.length.symm
  cases c : b (ds.map some ++ List.replicate (N.length - ds.length) none) h0 with
  | ok fl ρ' h' =>
    rw [c] at wp
    cases fl with
    | nx => exact fun as' H' σ' s' R' => wp as' H' s' R'.h _ .non
    | rt d => exact fun as' H' σ' s' R' v r => wp as' H' s' R'.h v r
    | bk => exact wp.elim
    | ct => exact wp.elim
  | ex C fs ρ' h' =>
    rw [c] at wp
    exact fun as' H' σ' x s' R' rx => wp as' H' x s' R'.h rx
  | bad => rw [c] at wp; exact wp.elim
end
theorem jt_bo {X : Cx} {W : WX} {e : Expr} {m : EM Bool} (h : JW X W e m) : JT X W e m := h.pt
/-! ### what a def leaves behind is forgotten where nobody can see it -/
mutual
def D.noRef : D → Bool
  | .ref _ => false
  | .tup ds => D.noRefL ds
  | .kt ds => D.noRefL ds
  | .lst ds => D.noRefL ds
  | .fz ds => D.noRefL ds
  | .dct _ ds => D.noRefL ds
  | _ => true
def D.noRefL : List D → Bool
  | [] => true
  | d :: ds => d.noRef && D.noRefL ds
end
def Cell.beq : Cell → Cell → Bool
  | .lst a, .lst b => D.beqL a b
  | .dct a, .dct b => decide (a.map (·.1) = b.map (·.1)) && D.beqL (a.map (·.2)) (b.map (·.2))
  | .ins C a, .ins C' b => decide (C = C') && decide (a.map (·.1) = b.map (·.1)) && D.beqL (a.map (·.2)) (b.map (·.2))
  | _, _ => false
theorem map_split {α β : Type} : ∀ {a b : List (α × β)}, a.map (·.1) = b.map (·.1) → a.map (·.2) = b.map (·.2) → a = b
  | [], [], _, _ => rfl
  | [], _ :: _, h, _ => by simp at h
  | _ :: _, [], h, _ => by simp at h
  | (x, y) :: a, (u, v) :: b, h1, h2 => by
    simp only [List.map_cons, List.cons.injEq] at h1 h2
    rw [h1.1, h2.1, map_split h1.2 h2.2]
theorem Cell.beq_eq {a b : Cell} (h : Cell.beq a b = true) : a = b := by
  cases a <;> cases b <;> first | (simp [Cell.beq] at h; done) | skip
  · rw [D.beqL_eq _ _ h]
  · simp only [Cell.beq, Bool.and_eq_true, decide_eq_true_eq] at h
    rw [map_split h.1 (D.beqL_eq _ _ h.2)]
  · simp only [Cell.beq, Bool.and_eq_true, decide_eq_true_eq] at h
    rw [h.1.1, map_split h.1.2 (D.beqL_eq _ _ h.2)]
theorem Cell.beq_rfl (a : Cell) : Cell.beq a a = true := by
  cases a <;> simp [Cell.beq, D.beqL_rfl]
def sameH : DH → DH → Bool
  | [], _ => true
  | c :: h, d :: h' => Cell.beq c d && sameH h h'
  | _ :: _, [] => false
theorem sameH_pre : ∀ {h h' : DH}, sameH h h' = true → ∃ t, h' = h ++ t
  | [], h', _ => ⟨h', rfl⟩
  | c :: h, [], e => by simp [sameH] at e
  | c :: h, d :: h', e => by
    simp only [sameH, Bool.and_eq_true] at e
    obtain ⟨t, rfl⟩ := sameH_pre e.2
    exact ⟨t, by rw [Cell.beq_eq e.1]; rfl⟩
@[simp] theorem sameH_app (h t : DH) : sameH h (h ++ t) = true := by
  induction h with
  | nil => rfl
  | cons c h ih => simp [sameH, Cell.beq_rfl, ih]
@[simp] theorem sameH_self (h : DH) : sameH h h = true := by have := sameH_app h []; rwa [List.append_nil] at this
/-- a new list whose cell nobody else can see is handed out as a value -/
def outD (h h' : DH) : D → D
  | .ref n => if h.length ≤ n then (match h'[n]? with | some (.lst ds) => if D.noRefL ds = true then .lst ds else .ref n | _ => .ref n) else .ref n
  | d => d
def gcF (F : DF) : DF := fun ds h => match F ds h with
  | .ok d h' => if sameH h h' = true ∧ (outD h h' d).noRef = true then .ok (outD h h' d) h else .ok d h'
  | r => r
section
variable {K : PySem.W.Frag} {H H' : Hp} {as as' : AS}
mutual
theorem Rp.down (hl : ∃ t, as'.l = as.l ++ t) (hb : as'.bn = as.bn) : ∀ (d : D) {v v0 : V}, Rp K H as v0 d → Rp K H' as' v d → Rp K H' as v d
  | .non, _, _, _, r => by cases r; exact .non
  | .bl _, _, _, _, r => by cases r; exact .bl _
  | .int _, _, _, _, r => by cases r; exact .int _
  | .str _, _, _, _, r => by cases r; exact .str _
  | .ty _, _, _, _, r => by cases r; exact .ty _
  | .ref n, _, _, r0, r => by
    cases r with
    | @ref n a q =>
      cases r0 with
      | @ref n a0 q0 =>
        refine .ref ?_
        obtain ⟨t, e⟩ := hl
        rw [e, List.getElem?_append_left (List.getElem?_eq_some_iff.mp q0).1] at q
        exact q
  | .tup ds, _, _, r0, r => by
    cases r0 with
    | tup _ r0 => cases r with | tup q r => exact .tup q (RpL.down hl hb ds r0 r)
  | .kt ds, _, _, r0, r => by
    cases r0 with
    | kt _ r0 => cases r with | kt q r => exact .kt q (RpL.down hl hb ds r0 r)
  | .lst ds, _, _, r0, r => by
    cases r0 with
    | lst _ _ r0 =>
      cases r with
      | lst q n r => exact .lst q ⟨fun m => n.1 (by obtain ⟨t, e⟩ := hl; rw [e]; exact List.mem_append_left _ m), by rw [← hb]; exact n.2⟩ (RpL.down hl hb ds r0 r)
  | .fz ds, _, _, r0, r => by
    cases r0 with
    | fz _ r0 =>
      cases r with
      | fz q r =>
        refine .fz ?_ (RpL.down hl hb ds r0 r)
        rcases q with ⟨q, n⟩ | q
        · exact .inl ⟨q, fun m => n.1 (by obtain ⟨t, e⟩ := hl; rw [e]; exact List.mem_append_left _ m), by rw [← hb]; exact n.2⟩
        · exact .inr q
  | .dct ks ds, _, _, r0, r => by
    cases r0 with
    | dct _ _ _ _ r0 =>
      cases r with
      | dct q n k1 k2 r => exact .dct q ⟨fun m => n.1 (by obtain ⟨t, e⟩ := hl; rw [e]; exact List.mem_append_left _ m), by rw [← hb]; exact n.2⟩ k1 k2 (RpL.down hl hb ds r0 r)
theorem RpL.down (hl : ∃ t, as'.l = as.l ++ t) (hb : as'.bn = as.bn) : ∀ (ds : List D) {vs vs0 : List V}, RpL K H as vs0 ds → RpL K H' as' vs ds → RpL K H' as vs ds
  | [], _, _, _, r => by cases r; exact .nil
  | d :: ds, _, _, r0, r => by
    cases r0 with
    | cons a0 b0 => cases r with | cons a b => exact .cons (Rp.down hl hb d a0 a) (RpL.down hl hb ds b0 b)
end
mutual
theorem Rp.pure (hl : ∃ t, as'.l = as.l ++ t) (hb : as'.bn = as.bn) : ∀ (d : D) {v : V}, d.noRef = true → Rp K H' as' v d → Rp K H' as v d
  | .non, _, _, r => by cases r; exact .non
  | .bl _, _, _, r => by cases r; exact .bl _
  | .int _, _, _, r => by cases r; exact .int _
  | .str _, _, _, r => by cases r; exact .str _
  | .ty _, _, _, r => by cases r; exact .ty _
  | .ref n, _, e, r => by cases e
  | .tup ds, _, e, r => by cases r with | tup q r => exact .tup q (RpL.pure hl hb ds e r)
  | .kt ds, _, e, r => by cases r with | kt q r => exact .kt q (RpL.pure hl hb ds e r)
  | .lst ds, _, e, r => by
    cases r with
    | lst q n r => exact .lst q ⟨fun m => n.1 (by obtain ⟨t, e⟩ := hl; rw [e]; exact List.mem_append_left _ m), by rw [← hb]; exact n.2⟩ (RpL.pure hl hb ds e r)
  | .fz ds, _, e, r => by
    cases r with
    | fz q r =>
      refine .fz ?_ (RpL.pure hl hb ds e r)
      rcases q with ⟨q, n⟩ | q
      · exact .inl ⟨q, fun m => n.1 (by obtain ⟨t, e⟩ := hl; rw [e]; exact List.mem_append_left _ m), by rw [← hb]; exact n.2⟩
      · exact .inr q
  | .dct ks ds, _, e, r => by
    cases r with
    | dct q n k1 k2 r => exact .dct q ⟨fun m => n.1 (by obtain ⟨t, e⟩ := hl; rw [e]; exact List.mem_append_left _ m), by rw [← hb]; exact n.2⟩ k1 k2 (RpL.pure hl hb ds e r)
theorem RpL.pure (hl : ∃ t, as'.l = as.l ++ t) (hb : as'.bn = as.bn) : ∀ (ds : List D) {vs : List V}, D.noRefL ds = true → RpL K H' as' vs ds → RpL K H' as vs ds
  | [], _, _, r => by cases r; exact .nil
  | d :: ds, _, e, r => by
    simp only [D.noRefL, Bool.and_eq_true] at e
    cases r with | cons a b => exact .cons (Rp.pure hl hb d e.1 a) (RpL.pure hl hb ds e.2 b)
end
theorem RC.down (hl : ∃ t, as'.l = as.l ++ t) (hb : as'.bn = as.bn) {c : Cell} {a a0 : Addr} (r0 : RC K H as c a0) (r : RC K H' as' c a) : RC K H' as c a := by
  cases c with
  | lst ds => obtain ⟨_, _, r0⟩ := r0; obtain ⟨vs, q, r⟩ := r; exact ⟨vs, q, RpL.down hl hb _ r0 r⟩
  | dct kds => obtain ⟨_, _, _, r0⟩ := r0; obtain ⟨vs, q, k, r⟩ := r; exact ⟨vs, q, k, RpL.down hl hb _ r0 r⟩
  | ins C fds => obtain ⟨_, _, _, _, r0⟩ := r0; obtain ⟨dx, vs, q, k, r⟩ := r; exact ⟨dx, vs, q, k, RpL.down hl hb _ r0 r⟩
end
theorem gc_ok {P : Program} {w : World} {K : PySem.W.Frag} {mg : Str → Option Value} {base : Heap} {CX : CXT} {k : Nat} {f : Addr} {fd : FuncData} {ps : List Str} {F : DF} {n : Nat} (G : FnOk P w K mg base CX k f fd ps (spOf K n F)) : FnOk P w K mg base CX k f fd ps (spOf K n (gcF F)) := by
  refine G.imp fun vs H Q E ⟨hn, as, ds, h, R, rl, wp⟩ => ⟨hn, as, ds, h, R, rl, ?_⟩
  unfold gcF at wp
  cases c : F ds h with
  | ex C fs h' => rw [c] at wp; exact wp
  | bad => rw [c] at wp; exact wp
  | ok d h' =>
    rw [c] at wp
    by_cases hc : sameH h h' = true ∧ (outD h h' d).noRef = true
    · simp only [if_pos hc] at wp
      obtain ⟨t, e⟩ := sameH_pre hc.1
      intro as' H' s R' v rv
      refine wp as H' ⟨⟨[], by simp⟩, rfl, fun a o ea na => ⟨(s.keep a o ea na).1, na⟩⟩ ?_ v ?_
      · refine ⟨R.len, R.nd, fun i c' a hc' ha => ?_, fun b m => ?_⟩
        · have h1 : h'[i]? = some c' := by
            rw [e, List.getElem?_append_left (List.getElem?_eq_some_iff.mp hc').1]; exact hc'
          have h2 : as'.l[i]? = some a := pre_get s.pre ha
          exact RC.down s.pre s.bn (R.cell i c' a hc' ha) (R'.cell i c' a h1 h2)
        · obtain ⟨⟨o, eb⟩, nb⟩ := R.bnd b m
          exact ⟨⟨o, (s.keep b o eb nb).1⟩, nb⟩
      · -- the value
        have hp := hc.2
        cases d with
        | ref n =>
          have ho : outD h h' (.ref n) = if h.length ≤ n then (match h'[n]? with | some (.lst ds) => if D.noRefL ds = true then .lst ds else .ref n | _ => .ref n) else .ref n := rfl
          rw [ho] at hp ⊢
          by_cases hn' : h.length ≤ n
          · rw [if_pos hn'] at hp ⊢
            split at hp
            · rename_i ds' hcell
              by_cases hr : D.noRefL ds' = true
              · rw [if_pos hr] at hp
                simp only [hcell, if_pos hr]
                cases rv with
                | @ref n a q =>
                  obtain ⟨us, k1, k2⟩ := R'.cell n _ a hcell q
                  have na : a ∉ as.l := fun m => by
                    obtain ⟨j, hj, ej⟩ := List.getElem_of_mem m
                    have q2 : as'.l[j]? = some a := pre_get s.pre (by rw [List.getElem?_eq_getElem hj, ej])
                    obtain ⟨l1, e1⟩ := List.getElem?_eq_some_iff.mp q
                    obtain ⟨l2, e2⟩ := List.getElem?_eq_some_iff.mp q2
                    have := (List.getElem_inj R'.nd).mp (e1.trans e2.symm)
                    have := R.len
                    omega
                  refine .lst k1 ⟨na, fun m => ?_⟩ (RpL.pure s.pre s.bn _ hr k2)
                  exact (R'.bnd a (by rw [s.bn]; exact m)).2 (List.mem_of_getElem? q)
              · rw [if_neg hr] at hp; cases hp
            · cases hp
          · rw [if_neg hn'] at hp; cases hp
        | _ => exact Rp.pure s.pre s.bn _ hp rv
    · simp only [if_neg hc] at wp
      exact wp
end DL


/-! DL: what the combinators compute, as equations. -/
namespace DL
open PySem L2
section
variable {α : Type} (ρ : DE) (h : DH)
@[simp] theorem eVar_ap (i : Nat) : eVar i ρ h = match ρ[i]? with | some (some d) => .ok d h | _ => .bad := rfl
@[simp] theorem eC_ap (d : D) : eC d ρ h = .ok d h := rfl
@[simp] theorem eBin_ap (f ma mb) : eBin f ma mb ρ h = (ma ρ h).bind fun x h1 => (mb ρ h1).bind fun y h2 => orBad (f x y h2) h2 := rfl
@[simp] theorem eBinL_ap (f ma mb) : eBinL f ma mb ρ h = (ma ρ h).bind fun x h1 => (mb ρ h1).bind fun y h2 => orBad (f x y h2) h2 := rfl
@[simp] theorem tBl_ap (m) : tBl m ρ h = (m ρ h).bind fun d h1 => match d with | .bl b => .ok b h1 | _ => .bad := rfl
@[simp] theorem tTru_ap (m) : tTru m ρ h = (m ρ h).bind fun d h1 => orBad (truD h1 d) h1 := rfl
@[simp] theorem tAnd_ap (a b) : tAnd' a b ρ h = (a ρ h).bind fun c h1 => if c = true then b ρ h1 else .ok false h1 := rfl
@[simp] theorem tOr_ap (a b) : tOr' a b ρ h = (a ρ h).bind fun c h1 => if c = true then .ok true h1 else b ρ h1 := rfl
@[simp] theorem tNot_ap (a) : tNot' a ρ h = (a ρ h).bind fun c h1 => .ok (!c) h1 := rfl
@[simp] theorem eIf_ap (c a b) : eIf c a b ρ h = (c ρ h).bind fun k h1 => if k = true then a ρ h1 else b ρ h1 := rfl
@[simp] theorem eAnd_ap (a b) : eAnd a b ρ h = (a ρ h).bind fun d h1 => match d with | .bl true => b ρ h1 | .bl false => .ok (.bl false) h1 | _ => .bad := rfl
@[simp] theorem eOr_ap (a b) : eOr a b ρ h = (a ρ h).bind fun d h1 => match d with | .bl true => .ok (.bl true) h1 | .bl false => b ρ h1 | _ => .bad := rfl
@[simp] theorem eNot_ap (a) : eNot a ρ h = (a ρ h).bind fun d h1 => match d with | .bl b => .ok (.bl (!b)) h1 | _ => .bad := rfl
@[simp] theorem eNeg_ap (a) : eNeg a ρ h = (a ρ h).bind fun d h1 => match d with | .int i => .ok (.int (-i)) h1 | _ => .bad := rfl
@[simp] theorem eCB_ap (g : List D → DH → Option α) (m) : eCB g m ρ h = (m ρ h).bind fun ds h1 => orBad (g ds h1) h1 := rfl
@[simp] theorem aNil_ap : aNil ρ h = .ok [] h := rfl
@[simp] theorem aCons_ap (ma mr) : aCons ma mr ρ h = (ma ρ h).bind fun d h1 => (mr ρ h1).bind fun ds h2 => .ok (d :: ds) h2 := rfl
@[simp] theorem lenOk_ap (m) : lenOk m ρ h = (m ρ h).bind fun ds h1 => if ds.length ≤ sizeLine then .ok ds h1 else .bad := rfl
@[simp] theorem eTup_ap (m) : eTup m ρ h = (m ρ h).bind fun ds h1 => if ds.length ≤ sizeLine then .ok (.tup ds) h1 else .bad := rfl
@[simp] theorem eLst_ap (m) : eLst m ρ h = (m ρ h).bind fun ds h1 => .ok (.lst ds) h1 := rfl
@[simp] theorem eNew_ap (m) : eNew m ρ h = (m ρ h).bind fun ds h1 => .ok (.ref h1.length) (h1 ++ [.lst ds]) := rfl
@[simp] theorem oNone_ap : oNone ρ h = .ok none h := rfl
@[simp] theorem oSome_ap (m) : oSome m ρ h = (m ρ h).bind fun d h1 => match d with | .int i => .ok (some i) h1 | _ => .bad := rfl
@[simp] theorem eSl_ap (f : D → Option Int → Option Int → DH → Option α) (m ml mh) : eSl f m ml mh ρ h = (m ρ h).bind fun d h1 => (ml ρ h1).bind fun lo h2 => (mh ρ h2).bind fun hi h3 => orBad (f d lo hi h3) h3 := rfl
@[simp] theorem eGet2_ap (mo mk mx) : eGet2 mo mk mx ρ h = (mo ρ h).bind fun o h1 => match dctD h1 o with
  | none => .bad
  | some _ => (mk ρ h1).bind fun k h2 => (mx ρ h2).bind fun x h3 => match dctD h3 o, keyD k with | some kds, some k => .ok ((lookK k kds).getD x) h3 | _, _ => .bad := rfl
@[simp] theorem eCall_ap (F m) : eCall F m ρ h = (m ρ h).bind fun ds h1 => F ds h1 := rfl
@[simp] theorem eCall0_ap (F) : eCall0 F ρ h = noEx (F [] h) := rfl
@[simp] theorem eMeth_ap (C m F mo ma) : eMeth C m F mo ma ρ h = (mo ρ h).bind fun o h1 => if insD h1 C m o = true then (ma ρ h1).bind fun ds h2 => noEx (F (o :: ds) h2) else .bad := rfl
@[simp] theorem eMake_ap (C F ma) : eMake C F ma ρ h = (ma ρ h).bind fun ds h1 => (noEx (F (.ref h1.length :: ds) (h1 ++ [.ins C []]))).bind fun r h2 => match r with | .non => .ok (.ref h1.length) h2 | _ => .bad := rfl
@[simp] theorem eFld_ap (C f mo) : eFld C f mo ρ h = (mo ρ h).bind fun o h1 => orBad (fldD h1 C f o) h1 := rfl
@[simp] theorem eMut_ap (f mo ma) : eMut f mo ma ρ h = (mo ρ h).bind fun o h1 => match lstD h1 o with
  | some _ => (ma ρ h1).bind fun ds h2 => match f o ds h2 with | some r => .ok r.1 r.2 | none => .bad
  | none => .bad := rfl
@[simp] theorem eDct_ap (m) : eDct m ρ h = (m ρ h).bind fun kds h1 => .ok (.dct (kds.map (·.1)) (kds.map (·.2))) h1 := rfl
@[simp] theorem eNewD_ap (m) : eNewD m ρ h = (m ρ h).bind fun kds h1 => .ok (.ref h1.length) (h1 ++ [.dct kds]) := rfl
@[simp] theorem dEmpty_ap : dEmpty ρ h = .ok [] h := rfl
@[simp] theorem eCBD_ap (g m) : eCBD g m ρ h = (m ρ h).bind fun ds h1 => orBad (g ds h1) h1 := rfl
@[simp] theorem mPairs_nil : mPairs [] ρ h = .ok [] h := rfl
@[simp] theorem mPairs_cons (p r) : mPairs (p :: r) ρ h = (p.1 ρ h).bind fun k h1 => (p.2 ρ h1).bind fun v h2 => (mPairs r ρ h2).bind fun ps h3 => .ok ((k, v) :: ps) h3 := rfl
@[simp] theorem dDisp_ap (ms) : dDisp ms ρ h = (noEx (mPairs ms ρ h)).bind fun ps h1 => match toKV ps with | some kds => if kds.length ≤ 15 then .ok (mergeD [] kds) h1 else .bad | none => .bad := rfl
@[simp] theorem noEx_ok (a : α) : noEx (.ok a h) = .ok a h := rfl
@[simp] theorem iLst_ap (m) : iLst m ρ h = (m ρ h).bind fun d h1 => orBad (srcL h1 d) h1 := rfl
@[simp] theorem iTupD_ap (m) : iTupD m ρ h = (m ρ h).bind fun d h1 => orBad (srcT d) h1 := rfl
@[simp] theorem iNew_ap (m) : iNew m ρ h = (m ρ h).bind fun ds h1 => .ok (ds, fun _ => true) h1 := rfl
@[simp] theorem iRange1_ap (m) : iRange1 m ρ h = (m ρ h).bind fun ds h1 => match ds with
  | [.int j] => if -(2 ^ 62) ≤ j ∧ j < 2 ^ 62 then .ok ((rngD 0 j.toNat, fun _ => true) : Src) h1 else .bad
  | _ => .bad := rfl
@[simp] theorem iRange2_ap (m) : iRange2 m ρ h = (m ρ h).bind fun ds h1 => match ds with
  | [.int i, .int j] => if -(2 ^ 62) ≤ i ∧ i < 2 ^ 62 ∧ -(2 ^ 62) ≤ j ∧ j < 2 ^ 62 then .ok ((rngD i (j - i).toNat, fun _ => true) : Src) h1 else .bad
  | _ => .bad := rfl
@[simp] theorem mYes_ap : mYes ρ h = .ok true h := rfl
@[simp] theorem eLc_ap (m t mt me own) : eLc m t mt me own ρ h = (m ρ h).bind fun s h1 => lcL s.2 t mt me (wipeD ρ own) s.1 [] h1 := rfl
@[simp] theorem wipeD_nil : wipeD ρ [] = ρ := rfl
@[simp] theorem wipeD_cons (v vs) : wipeD ρ (v :: vs) = (wipeD ρ vs).set v none := rfl
/-! statements -/
@[simp] theorem sNil_ap : sNil ρ h = .ok .nx ρ h := rfl
@[simp] theorem sSeq_ap (a b) : sSeq a b ρ h = match a ρ h with | .ok .nx ρ' h' => b ρ' h' | r => r := rfl
@[simp] theorem sBreak_ap : sBreak ρ h = .ok .bk ρ h := rfl
@[simp] theorem sCont_ap : sCont ρ h = .ok .ct ρ h := rfl
@[simp] theorem sExpr_ap (m) : sExpr m ρ h = SR.of ρ (m ρ h) fun _ h1 => .ok .nx ρ h1 := rfl
@[simp] theorem sRet_ap (m) : sRet m ρ h = SR.of ρ (m ρ h) fun d h1 => .ok (.rt d) ρ h1 := rfl
@[simp] theorem sRetN_ap : sRetN ρ h = .ok (.rt .non) ρ h := rfl
@[simp] theorem sIf_ap (c a b) : sIf c a b ρ h = SR.of ρ (c ρ h) fun k h1 => if k = true then a ρ h1 else b ρ h1 := rfl
@[simp] theorem sSet_ap (i m) : sSet i m ρ h = SR.of ρ (m ρ h) fun d h1 => .ok .nx (ρ.set i (some d)) h1 := rfl
@[simp] theorem sAsg_ap (t m) : sAsg t m ρ h = SR.of ρ (m ρ h) fun d h1 => match asgT h1 t d ρ with | some ρ' => .ok .nx ρ' h1 | none => .bad := rfl
@[simp] theorem sAug_ap (i g m) : sAug i g m ρ h = match ρ[i]? with
  | some (some (.int a)) => SR.of ρ (m ρ h) fun d h1 => match d with | .int b => .ok .nx (ρ.set i (some (.int (g a b)))) h1 | _ => .bad
  | _ => .bad := rfl
@[simp] theorem sFld_ap (C f mo mv) : sFld' C f mo mv ρ h = SR.of ρ (mv ρ h) fun d h1 => SR.of ρ (mo ρ h1) fun o h2 => match setFld h2 C f d o with | some h3 => .ok .nx ρ h3 | none => .bad := rfl
@[simp] theorem sFldAug_ap (C f g mo mv) : sFldAug' C f g mo mv ρ h = SR.of ρ (mo ρ h) fun o h1 => match fldD h1 C f o with
  | some (.int i) => SR.of ρ (mv ρ h1) fun d h2 => (match d with | .int j => (match fldD h2 C f o, setFld h2 C f (.int (g i j)) o with | some (.int i'), some h3 => if i' = i then .ok .nx ρ h3 else .bad | _, _ => .bad) | _ => .bad)
  | _ => .bad := rfl
@[simp] theorem sDPut_ap (mo mi mv) : sDPut' mo mi mv ρ h = SR.of ρ (mv ρ h) fun d h1 => SR.of ρ (mo ρ h1) fun o h2 => SR.of ρ (mi ρ h2) fun k h3 => match setDct h3 k d o with | some h4 => .ok .nx ρ h4 | none => .bad := rfl
@[simp] theorem sFor_ap (m t b) : sFor m t b ρ h = SR.of ρ (m ρ h) fun s h1 => forL s.2 t b s.1 ρ h1 := rfl
end
/-! targets -/
@[simp] theorem asgT_nm (h : DH) (i : Nat) (d : D) (ρ : DE) : asgT h (.nm i) d ρ = some (ρ.set i (some d)) := rfl
@[simp] theorem asgT_tp (h : DH) (ts : List Tg) (d : D) (ρ : DE) : asgT h (.tp ts) d ρ = match tupD d with | some ds => if ds.length = ts.length then asgTs h ts ds ρ else none | none => none := rfl
@[simp] theorem asgTs_nil (h : DH) (ρ : DE) : asgTs h [] [] ρ = some ρ := rfl
@[simp] theorem asgTs_cons (h : DH) (t : Tg) (ts : List Tg) (d : D) (ds : List D) (ρ : DE) : asgTs h (t :: ts) (d :: ds) ρ = match asgT h t d ρ with | some ρ' => asgTs h ts ds ρ' | none => none := rfl
/-! values -/
@[simp] theorem fI_int (g : Int → Int → Option D) (i j : Int) (h : DH) : fI g (.int i) (.int j) h = g i j := rfl
@[simp] theorem gAdd_ap (i j : Int) : gAdd i j = some (.int (i + j)) := rfl
@[simp] theorem gSub_ap (i j : Int) : gSub i j = some (.int (i - j)) := rfl
@[simp] theorem gLt_ap (i j : Int) : gLt i j = some (.bl (decide (i < j))) := rfl
@[simp] theorem gLe_ap (i j : Int) : gLe i j = some (.bl (decide (i ≤ j))) := rfl
@[simp] theorem gGt_ap (i j : Int) : gGt i j = some (.bl (decide (j < i))) := rfl
@[simp] theorem gGe_ap (i j : Int) : gGe i j = some (.bl (decide (j ≤ i))) := rfl
theorem gMul_ap {i j : Int} (c : (-(2 ^ 64) < i ∧ i < 2 ^ 64) ∨ (-(2 ^ 64) < j ∧ j < 2 ^ 64)) : gMul i j = some (.int (i * j)) := if_pos c
theorem gDiv_ap {i j : Int} (h1 : 0 < j) (h2 : j < 1073741824) : gDiv i j = some (.int (i / j)) := if_pos ⟨h1, h2⟩
theorem gMod_ap {i j : Int} (h1 : 0 < j) : gMod i j = some (.int (i % j)) := if_pos h1
@[simp] theorem lstD_lst (h : DH) (ds) : lstD h (.lst ds) = some ds := rfl
@[simp] theorem lstD_fz (h : DH) (ds) : lstD h (.fz ds) = some ds := rfl
@[simp] theorem lstD_ref (h : DH) (n) : lstD h (.ref n) = match h[n]? with | some (.lst ds) => some ds | _ => none := rfl
@[simp] theorem lstM_lst (h : DH) (ds) : lstM h (.lst ds) = some ds := rfl
@[simp] theorem lstM_ref (h : DH) (n) : lstM h (.ref n) = match h[n]? with | some (.lst ds) => some ds | _ => none := rfl
@[simp] theorem tupD_tup (ds) : tupD (.tup ds) = some ds := rfl
@[simp] theorem seqD_lst (h : DH) (ds) : seqD h (.lst ds) = some ds := rfl
@[simp] theorem seqD_fz (h : DH) (ds) : seqD h (.fz ds) = some ds := rfl
@[simp] theorem seqD_tup (h : DH) (ds) : seqD h (.tup ds) = some ds := rfl
@[simp] theorem srcL_lst (h : DH) (ds) : srcL h (.lst ds) = some (ds, fun _ => true) := rfl
@[simp] theorem srcL_fz (h : DH) (ds) : srcL h (.fz ds) = some (ds, fun _ => true) := rfl
@[simp] theorem srcT_tup (ds) : srcT (.tup ds) = some (ds, fun _ => true) := rfl
@[simp] theorem keyD_int (i : Int) : keyD (.int i) = some (.inl i) := rfl
@[simp] theorem keyD_str (s : Str) : keyD (.str s) = some (.inr s) := rfl
@[simp] theorem dctD_ref (h : DH) (n) : dctD h (.ref n) = match h[n]? with | some (.dct kds) => some kds | _ => none := rfl
@[simp] theorem dctD_maps (h : DH) (kds : List (Key × D)) : dctD h (.dct (kds.map (·.1)) (kds.map (·.2))) = some kds := by
  simp only [dctD, List.length_map, if_true]
  congr 1
  induction kds with
  | nil => rfl
  | cons a l ih => simp [ih]
@[simp] theorem cInt_int (i : Int) (h : DH) : cInt [.int i] h = some (.int i) := rfl
@[simp] theorem cMin2_ap (i j : Int) (h : DH) : cMin2 [.int i, .int j] h = some (.int (min i j)) := rfl
@[simp] theorem cMax2_ap (i j : Int) (h : DH) : cMax2 [.int i, .int j] h = some (.int (max i j)) := rfl
@[simp] theorem onInts_lst (g : List Int → Option D) (ns : List Int) (h : DH) : onInts g [.lst (ns.map D.int)] h = g ns := by simp [onInts]
@[simp] theorem onBls_lst (g : List Bool → D) (ns : List Bool) (h : DH) : onBls g [.lst (ns.map D.bl)] h = some (g ns) := by simp [onBls]
@[simp] theorem cSeq_ap (d : D) (h : DH) : cSeq [d] h = seqD h d := rfl
@[simp] theorem cLen_lst (ds : List D) (h : DH) : cLen [.lst ds] h = some (.int (ds.length : Int)) := rfl
@[simp] theorem cLen_fz (ds : List D) (h : DH) : cLen [.fz ds] h = some (.int (ds.length : Int)) := rfl
@[simp] theorem cLen_tup (ds : List D) (h : DH) : cLen [.tup ds] h = some (.int (ds.length : Int)) := rfl
@[simp] theorem dIx_lst (ds : List D) (i : Int) (h : DH) : dIx (.lst ds) (.int i) h = atI ds i := rfl
@[simp] theorem dIx_fz (ds : List D) (i : Int) (h : DH) : dIx (.fz ds) (.int i) h = atI ds i := rfl
@[simp] theorem dIx_tup (ds : List D) (i : Int) (h : DH) : dIx (.tup ds) (.int i) h = atI ds i := rfl
@[simp] theorem dSlL_lst (ds : List D) (lo hi) (h : DH) : dSlL (.lst ds) lo hi h = some (cutD ds lo hi) := rfl
@[simp] theorem dSlT_tup (ds : List D) (lo hi) (h : DH) : dSlT (.tup ds) lo hi h = some (.tup (cutD ds lo hi)) := rfl
@[simp] theorem dIsN_int (i : Int) (h : DH) : dIsN (.int i) .non h = some (.bl false) := rfl
@[simp] theorem dIsN_non (h : DH) : dIsN .non .non h = some (.bl true) := rfl
@[simp] theorem dNotN_int (i : Int) (h : DH) : dNotN (.int i) .non h = some (.bl true) := rfl
@[simp] theorem dNotN_non (h : DH) : dNotN .non .non h = some (.bl false) := rfl
theorem size24 : sizeLine = 16777216 := sizeLine_eq
/-! equality -/
theorem canLayInts (ns : List Int) : PyData.canLayAll0 (ns.map PyData.int) = true := by
  induction ns with
  | nil => rfl
  | cons n ns ih => simp [PyData.canLayAll0, PyData.canLay0, ih]
theorem depthInts (ns : List Int) : PyData.depthAll (ns.map PyData.int) = 0 := by
  induction ns with
  | nil => rfl
  | cons n ns ih => simp [PyData.depthAll, PyData.depth, ih]
@[simp] theorem toPL_ints (ns : List Int) : toPL (ns.map D.int) = some (ns.map PyData.int) := by
  induction ns with
  | nil => rfl
  | cons n ns ih => simp [toPL, toP, ih]
theorem eqvInts (ns ms : List Int) : PyData.eqvAll (ns.map PyData.int) (ms.map PyData.int) = decide (ns = ms) := by
  induction ns generalizing ms with
  | nil => cases ms <;> simp [PyData.eqvAll]
  | cons n ns ih => cases ms <;> simp [PyData.eqvAll, PyData.eqv, ih, Bool.beq_eq_decide_eq]
theorem shapedInts (ns : List Int) : SeqAt.shaped (.list (ns.map PyData.int)) = true := by
  simp [SeqAt.shaped, PyData.canLay0, canLayInts, PyData.depth, depthInts]
@[simp] theorem eqD_ints (h : DH) (ns ms : List Int) : eqD h (.lst (ns.map D.int)) (.lst (ms.map D.int)) = some (decide (ns = ms)) := by
  simp [eqD, cellP, toP, shapedInts, PyData.eqv, eqvInts]
@[simp] theorem eqD_ints_nil (h : DH) (ns : List Int) : eqD h (.lst (ns.map D.int)) (.lst []) = some (decide (ns = [])) := eqD_ints h ns []
@[simp] theorem eqD_nil_ints (h : DH) (ns : List Int) : eqD h (.lst []) (.lst (ns.map D.int)) = some (decide ([] = ns)) := eqD_ints h [] ns
@[simp] theorem eqD_nil_nil (h : DH) : eqD h (.lst []) (.lst []) = some true := by rw [show (D.lst []) = D.lst (([] : List Int).map D.int) from rfl, eqD_ints]; rfl
@[simp] theorem eqD_int (h : DH) (i j : Int) : eqD h (.int i) (.int j) = some (decide (i = j)) := by
  simp [eqD, cellP, toP, SeqAt.shaped, PyData.canLay0, PyData.depth, PyData.eqv, Bool.beq_eq_decide_eq]
@[simp] theorem eqD_int_non (h : DH) (i : Int) : eqD h (.int i) .non = some false := by simp [eqD, cellP, toP, SeqAt.shaped, PyData.canLay0, PyData.depth, PyData.eqv]
@[simp] theorem eqD_non_int (h : DH) (i : Int) : eqD h .non (.int i) = some false := by simp [eqD, cellP, toP, SeqAt.shaped, PyData.canLay0, PyData.depth, PyData.eqv]
@[simp] theorem eqD_non (h : DH) : eqD h .non .non = some true := by simp [eqD, cellP, toP, SeqAt.shaped, PyData.canLay0, PyData.depth, PyData.eqv]
@[simp] theorem eqD_bl (h : DH) (i j : Bool) : eqD h (.bl i) (.bl j) = some (i == j) := by
  simp [eqD, cellP, toP, SeqAt.shaped, PyData.canLay0, PyData.depth, PyData.eqv]
@[simp] theorem dEq_ap (x y : D) (h : DH) : dEq x y h = (eqD h x y).map .bl := rfl
@[simp] theorem dNe_ap (x y : D) (h : DH) : dNe x y h = (eqD h x y).map fun b => .bl (!b) := rfl
@[simp] theorem toVL_ints (ns : List Int) : toVL (ns.map D.int) = some (ns.map V.int) := by
  induction ns with
  | nil => rfl
  | cons n ns ih => simp [toVL, toV, ih]
theorem inV_ints (i : Int) (ns : List Int) : inV (.int i) (ns.map V.int) = decide (i ∈ ns) := by
  rw [Bool.eq_iff_iff]
  simp [inV, eqV]
@[simp] theorem inD_ints (i : Int) (ns : List Int) (h : DH) : inD (.int i) (.lst (ns.map D.int)) h = some (decide (i ∈ ns)) := by
  simp [inD, toV, inV_ints]
@[simp] theorem dIn_ap (x y : D) (h : DH) : dIn x y h = (inD x y h).map .bl := rfl
@[simp] theorem dNotIn_ap (x y : D) (h : DH) : dNotIn x y h = (inD x y h).map fun b => .bl (!b) := rfl
/-! comprehensions -/
theorem lcL_pure {α : Type} {chk : DH → Bool} {t : Tg} {mt : EM Bool} {me : EM D} {ρ : DE} {h : DH} (en : α → D) (f : α → Bool) (g : α → D) (hc : chk h = true) : ∀ (xs : List α) (acc : List D),
    (∀ x ∈ xs, ∃ ρ1, asgT h t (en x) ρ = some ρ1 ∧ mt ρ1 h = .ok (f x) h ∧ (f x = true → me ρ1 h = .ok (g x) h)) → acc.length + xs.length ≤ sizeLine →
    lcL chk t mt me ρ (xs.map en) acc h = .ok (acc ++ (xs.filter f).map g) h
  | [], acc, _, _ => by simp [lcL, hc]
  | x :: xs, acc, hx, hl => by
    obtain ⟨ρ1, e1, e2, e3⟩ := hx x List.mem_cons_self
    rw [List.length_cons] at hl
    simp only [List.map_cons, lcL, hc, if_true, e1, e2, noEx_ok, Res.bind_ok]
    cases hf : f x with
    | false =>
      simp only [Bool.false_eq_true, if_false]
      rw [lcL_pure en f g hc xs acc (fun y hy => hx y (List.mem_cons_of_mem _ hy)) (by omega), List.filter_cons_of_neg (by simp [hf])]
    | true =>
      simp only [if_true, e3 hf, noEx_ok, Res.bind_ok]
      rw [if_pos (by omega), lcL_pure en f g hc xs _ (fun y hy => hx y (List.mem_cons_of_mem _ hy)) (by simp; omega), List.filter_cons_of_pos (by simp [hf])]
      simp
/-- over whole numbers, the target a name -/
theorem lcL_ints {i : Nat} {mt : EM Bool} {me : EM D} {ρ : DE} {h : DH} {chk : DH → Bool} {ns : List Int} (f : Int → Bool) (g : Int → D) (hc : chk h = true) (hl : ns.length ≤ sizeLine)
    (hm : ∀ n ∈ ns, mt (ρ.set i (some (.int n))) h = .ok (f n) h) (he : ∀ n ∈ ns, f n = true → me (ρ.set i (some (.int n))) h = .ok (g n) h) :
    lcL chk (.nm i) mt me ρ (ns.map D.int) [] h = .ok ((ns.filter f).map g) h := by
  have := lcL_pure (chk := chk) (t := .nm i) (mt := mt) (me := me) (ρ := ρ) (h := h) D.int f g hc ns [] (fun n hn => ⟨_, rfl, hm n hn, he n hn⟩) (by simpa using hl)
  simpa using this
theorem rngD_eq (lo : Int) (n : Nat) : rngD lo n = ((List.range n).map fun i => lo + (i : Nat)).map D.int := by simp [rngD]
end DL
namespace DL
open PySem L2
theorem gc_pure {F : DF} {ds : List D} {h t : DH} {d : D} (hn : d.noRef = true) (e : F ds h = .ok d (h ++ t)) : gcF F ds h = .ok d h := by
  have ho : outD h (h ++ t) d = d := by cases d <;> first | rfl | cases hn
  simp only [gcF, e, sameH_app, ho, hn, and_self, if_true]
theorem gc_pure0 {F : DF} {ds : List D} {h : DH} {d : D} (hn : d.noRef = true) (e : F ds h = .ok d h) : gcF F ds h = .ok d h := gc_pure (t := []) hn (by rw [List.append_nil]; exact e)
theorem gc_len {F : DF} {ds : List D} {h h' : DH} {d : D} (hn : d.noRef = true) (e : F ds h = .ok d h') (hl : h'.length = h.length) : gcF F ds h = .ok d h' := by
  have ho : outD h h' d = d := by cases d <;> first | rfl | cases hn
  simp only [gcF, e, ho, hn, and_true]
  split
  · rename_i s
    obtain ⟨t, rfl⟩ := sameH_pre s
    have : t = [] := by simpa using hl
    rw [this, List.append_nil]
  · rfl
/-- a list made in a cell and handed out -/
theorem gc_new {F : DF} {ds : List D} {h t : DH} {es : List D} {n : Nat} (hn : D.noRefL es = true) (e : F ds h = .ok (.ref n) (h ++ t)) (hl : h.length ≤ n) (hc : (h ++ t)[n]? = some (.lst es)) : gcF F ds h = .ok (.lst es) h := by
  have ho : outD h (h ++ t) (.ref n) = .lst es := by simp [outD, hl, hc, hn]
  have hr : (D.lst es).noRef = true := hn
  simp only [gcF, e, sameH_app, ho, hr, and_self, if_true]
@[simp] theorem noRefL_ints (ns : List Int) : D.noRefL (ns.map D.int) = true := by
  induction ns with
  | nil => rfl
  | cons n ns ih => simp [D.noRefL, D.noRef, ih]
def encO : Option Int → D
  | none => .non
  | some i => .int i
@[simp] theorem encO_none : encO none = .non := rfl
@[simp] theorem encO_some (i : Int) : encO (some i) = .int i := rfl
@[simp] theorem noRef_encO (o : Option Int) : (encO o).noRef = true := by cases o <;> rfl
theorem cut_to (ds : List D) (k : Nat) : cutD ds none (some (k : Int)) = ds.take k := by
  unfold cutD
  rw [HT.sIx_none, HT.sIx_nat, List.drop_zero, Nat.sub_zero]
  by_cases h : k ≤ ds.length
  · rw [Nat.min_eq_left h]
  · rw [Nat.min_eq_right (by omega), List.take_of_length_le (Nat.le_refl _), List.take_of_length_le (by omega)]
theorem cut_from (ds : List D) (k : Nat) : cutD ds (some (k : Int)) none = ds.drop k := by
  unfold cutD
  rw [HT.sIx_none, HT.sIx_nat]
  by_cases h : k ≤ ds.length
  · rw [Nat.min_eq_left h, List.take_of_length_le (by simp)]
  · rw [Nat.min_eq_right (by omega), List.drop_of_length_le (Nat.le_refl _), List.drop_of_length_le (by omega)]; simp
theorem atI_map {α : Type} (f : α → D) (xs : List α) (i : Nat) (h : i < xs.length) : atI (xs.map f) (i : Int) = some (f xs[i]) := atI_nat (by simp [h])
end DL


namespace Lw
open PySem PySem.Spec PyProof.Rows L2 DL
/-! ### the text by places -/
def top (i : Nat) : Stmt := PySem.Challenge.pw_anyenough_k67_whole_turns_of_many_neighb.main.body.getD i (.Pass ⟨0, 0, 0, 0⟩)
abbrev st_next_of : Stmt := top 3
abbrev st_best : Stmt := top 4
abbrev st_Turns_init : Stmt := inClass (top 5) 0
abbrev st_Turns_leave : Stmt := inClass (top 5) 2
abbrev st_Turns_served : Stmt := inClass (top 5) 3
abbrev st_law_cell : Stmt := top 7
abbrev st_law_rich : Stmt := top 8
abbrev st_law_next : Stmt := top 9
abbrev st_law_best : Stmt := top 10
abbrev st_law_turn_leave : Stmt := top 12
abbrev st_law_served : Stmt := top 13
abbrev st_law_wishing : Stmt := top 14
abbrev st_Turns_step : Stmt := inClass (top 5) 1
abbrev st_law_turn_step : Stmt := top 11
abbrev st_law : Stmt := top 15
/-! ### what each def does -/
def b_next_of (cTurns : Addr) : SM := sSeq (sSet 2 (eLst (eLc (iLst (eVar 0)) (.nm 3) (tOr' (tBl (eBin dIsN (eVar 1) (eC .non))) (tBl (eBin (fI gGt) (eVar 3) (eVar 1)))) (eVar 3) [3]))) (sSeq (sIf (tBl (eBin dNe (eVar 2) (eLst (lenOk (aNil))))) (sRet (eCB cMin (aCons (eVar 2) (aNil)))) (sNil)) (sRet (eIf (tBl (eBin dNe (eVar 0) (eLst (lenOk (aNil))))) (eCB cMin (aCons (eVar 0) (aNil))) (eC .non))))
def m_next_of (cTurns : Addr) : DF := gcF (mDef 4 (b_next_of cTurns))
def b_best (cTurns : Addr) : SM := sSeq (sSet 2 (eLst (eCB cSortedP (aCons (eLst (eLc (iLst (eVar 1)) (.nm 3) (tBl (eBin (fI gGt) (eGet2 (eVar 0) (eVar 3) (eC (.int 0))) (eC (.int 0)))) (eTup (aCons (eNeg (eBin dGet (eVar 0) (eVar 3))) (aCons (eVar 3) (aNil)))) [3])) (aNil))))) (sRet (eLst (eLc (iNew (eSl dSlL (eVar 2) (oNone) (oSome (eC (.int 2))))) (.tp [(.nm 4), (.nm 3)]) (mYes) (eVar 3) [4, 3])))
def m_best (cTurns : Addr) : DF := gcF (mDef 5 (b_best cTurns))
def b_Turns_init (cTurns : Addr) : SM := sSeq (sFld' cTurns "holder" (eVar 0) (eC .non)) (sSeq (sFld' cTurns "last" (eVar 0) (eC .non)) (sSeq (sFld' cTurns "left" (eVar 0) (eC (.int 0))) (sFld' cTurns "rewards" (eVar 0) (eLst (lenOk (aNil))))))
def m_Turns_init (cTurns : Addr) : DF := gcF (mDef 1 (b_Turns_init cTurns))
def b_Turns_leave (cTurns : Addr) : SM := sSeq (sIf (tBl (eBin dEq (eFld cTurns "holder" (eVar 0)) (eVar 1))) (sSeq (sFld' cTurns "holder" (eVar 0) (eC .non)) (sFld' cTurns "left" (eVar 0) (eC (.int 0)))) (sNil)) (sFld' cTurns "rewards" (eVar 0) (eLst (eLc (iLst (eFld cTurns "rewards" (eVar 0))) (.nm 2) (tBl (eBin dNe (eVar 2) (eVar 1))) (eVar 2) [2])))
def m_Turns_leave (cTurns : Addr) : DF := gcF (mDef 3 (b_Turns_leave cTurns))
def b_Turns_served (cTurns : Addr) : SM := sSeq (sSet 1 (eNew (eCB cSeq (aCons (eFld cTurns "rewards" (eVar 0)) (aNil))))) (sSeq (sIf (tBl (eBin dNotN (eFld cTurns "holder" (eVar 0)) (eC .non))) (sExpr (eMut fAppend (eVar 1) (aCons (eFld cTurns "holder" (eVar 0)) (aNil)))) (sNil)) (sRet (eLst (eCB cSorted (aCons (eVar 1) (aNil))))))
def m_Turns_served (cTurns : Addr) : DF := gcF (mDef 2 (b_Turns_served cTurns))
def b_law_cell (cTurns : Addr) : SM := sSeq (sIf (tBl (eBin (fI gLt) (eVar 1) (eCB cLen (aCons (eVar 0) (aNil))))) (sRet (eCB cInt (aCons (eBin dIx (eVar 0) (eVar 1)) (aNil)))) (sNil)) (sRet (eC (.int 0)))
def m_law_cell (cTurns : Addr) : DF := gcF (mDef 2 (b_law_cell cTurns))
def b_law_rich (cTurns : Addr) : SM := sSeq (sIf (tBl (eBin (fI gGe) (eVar 0) (eBin (fI gPow) (eC (.int 10)) (eC (.int 18))))) (sRet (eCB cInt (aCons (eVar 0) (aNil)))) (sNil)) (sSeq (sSet 2 (eBin (fI gMod) (eCB cInt (aCons (eBin (fI gAdd) (eBin (fI gAdd) (eBin (fI gMul) (eVar 0) (eC (.int 48271))) (eBin (fI gMul) (eVar 1) (eC (.int 69621)))) (eC (.int 11))) (aNil))) (eC (.int 2147483647)))) (sRet (eBin (fI gAdd) (eBin (fI gMul) (eVar 2) (eC (.int 2147483629))) (eBin (fI gMod) (eCB cInt (aCons (eBin (fI gAdd) (eBin (fI gMul) (eVar 2) (eC (.int 16807))) (eVar 0)) (aNil))) (eC (.int 2147483629))))))
def m_law_rich (cTurns : Addr) : DF := gcF (mDef 3 (b_law_rich cTurns))
def b_law_next (cTurns : Addr) : SM := sSeq (sSet 2 (eLst (eLc (iLst (eVar 0)) (.nm 3) (tOr' (tBl (eBin dIsN (eVar 1) (eC .non))) (tBl (eBin (fI gGt) (eVar 3) (eVar 1)))) (eVar 3) [3]))) (sSeq (sIf (tBl (eBin (fI gGt) (eCB cLen (aCons (eVar 2) (aNil))) (eC (.int 0)))) (sRet (eBin dIx (eVar 2) (eC (.int 0)))) (sNil)) (sRet (eIf (tBl (eBin (fI gGt) (eCB cLen (aCons (eVar 0) (aNil))) (eC (.int 0)))) (eBin dIx (eVar 0) (eC (.int 0))) (eC .non))))
def m_law_next (cTurns : Addr) : DF := gcF (mDef 4 (b_law_next cTurns))
def b_law_best (cTurns : Addr) : SM := sSeq (sSet 2 (eLst (lenOk (aNil)))) (sSeq (sFor (iLst (eVar 1)) (.nm 3) (sSeq (sSet 4 (eGet2 (eVar 0) (eVar 3) (eC (.int 0)))) (sSeq (sSet 5 (eC (.int 0))) (sSeq (whileN (tAnd' (tBl (eBin (fI gLt) (eVar 5) (eCB cLen (aCons (eVar 2) (aNil))))) (tBl (eBin (fI gGe) (eGet2 (eVar 0) (eBin dIx (eVar 2) (eVar 5)) (eC (.int 0))) (eVar 4)))) (sSet 5 (eBin (fI gAdd) (eVar 5) (eC (.int 1)))) 1000) (sIf (tBl (eBin (fI gGt) (eVar 4) (eC (.int 0)))) (sSet 2 (eLst (eBinL dCatL (eLst (eBinL dCatL (eLst (eSl dSlL (eVar 2) (oNone) (oSome (eVar 5)))) (eLst (lenOk (aCons (eVar 3) (aNil)))))) (eLst (eSl dSlL (eVar 2) (oSome (eVar 5)) (oNone)))))) (sNil)))))) (sRet (eLst (eSl dSlL (eVar 2) (oNone) (oSome (eC (.int 2)))))))
def m_law_best (cTurns : Addr) : DF := gcF (mDef 6 (b_law_best cTurns))
def b_law_turn_leave (cTurns : Addr) : SM := sSeq (sIf (tBl (eBin dEq (eBin dGet (eVar 0) (eC (.str "holder"))) (eVar 1))) (sSeq (sDPut' (eVar 0) (eC (.str "holder")) (eC .non)) (sDPut' (eVar 0) (eC (.str "left")) (eC (.int 0)))) (sNil)) (sDPut' (eVar 0) (eC (.str "rewards")) (eLst (eLc (iLst (eBin dGet (eVar 0) (eC (.str "rewards")))) (.nm 2) (tBl (eBin dNe (eVar 2) (eVar 1))) (eVar 2) [2])))
def m_law_turn_leave (cTurns : Addr) : DF := gcF (mDef 3 (b_law_turn_leave cTurns))
def b_law_served (cTurns : Addr) : SM := sSeq (sSet 1 (eIf (tBl (eBin dNotN (eBin dGet (eVar 0) (eC (.str "holder"))) (eC .non))) (eLst (lenOk (aCons (eBin dGet (eVar 0) (eC (.str "holder"))) (aNil)))) (eLst (lenOk (aNil))))) (sRet (eLst (eCB cSorted (aCons (eLst (eBinL dCatL (eVar 1) (eBin dGet (eVar 0) (eC (.str "rewards"))))) (aNil)))))
def m_law_served (cTurns : Addr) : DF := gcF (mDef 2 (b_law_served cTurns))
def b_law_wishing (cTurns : Addr) : SM := sSeq (sSet 3 (eBin (fI gMod) (eVar 0) (eC (.int 5)))) (sSeq (sIf (tBl (eBin dEq (eVar 3) (eC (.int 0)))) (sRet (eLst (eLc (iRange1 (aCons (eVar 2) (aNil))) (.nm 5) (tBl (eBin dNe (eBin (fI gMod) (eBin (fI gDiv) (eVar 0) (eC (.int 5))) (eC (.int 7))) (eBin (fI gMod) (eCB cInt (aCons (eVar 5) (aNil))) (eC (.int 7))))) (eVar 5) [5]))) (sNil)) (sSeq (sIf (tBl (eBin dEq (eVar 3) (eC (.int 1)))) (sRet (eLst (eLc (iRange1 (aCons (eVar 2) (aNil))) (.nm 5) (tOr' (tBl (eBin dNotIn (eVar 5) (eVar 1))) (tBl (eBin dEq (eBin (fI gMod) (eVar 5) (eC (.int 2))) (eBin (fI gMod) (eBin (fI gDiv) (eVar 0) (eC (.int 5))) (eC (.int 2)))))) (eVar 5) [5]))) (sNil)) (sSeq (sIf (tBl (eBin dEq (eVar 3) (eC (.int 2)))) (sSeq (sSet 4 (eBin (fI gMod) (eBin (fI gDiv) (eVar 0) (eC (.int 5))) (eVar 2))) (sRet (eLst (eLc (iLst (eVar 1)) (.nm 5) (tBl (eBin dNe (eVar 5) (eVar 4))) (eVar 5) [5])))) (sNil)) (sRet (eLst (eCB cSortedD (aCons (eDct (eCBD cDictP (aCons (eLst (eLc (iNew (eBinL dCatL (eVar 1) (eLst (lenOk (aCons (eBin (fI gMod) (eBin (fI gDiv) (eVar 0) (eC (.int 5))) (eVar 2)) (aNil)))))) (.nm 5) (mYes) (eTup (aCons (eVar 5) (aCons (eC (.bl true)) (aNil)))) [5])) (aNil)))) (aNil))))))))
def m_law_wishing (cTurns : Addr) : DF := gcF (mDef 6 (b_law_wishing cTurns))
def b_Turns_step (cTurns : Addr) : SM := sSeq (sIf (tBl (eBin (fI gGt) (eFld cTurns "left" (eVar 0)) (eC (.int 0)))) (sFldAug' cTurns "left" (fun i j => i - j) (eVar 0) (eC (.int 1))) (sNil)) (sSeq (sIf (tAnd' (tBl (eBin dNotN (eFld cTurns "holder" (eVar 0)) (eC .non))) (tAnd' (tBl (eBin dIn (eFld cTurns "holder" (eVar 0)) (eVar 1))) (tBl (eBin (fI gGt) (eFld cTurns "left" (eVar 0)) (eC (.int 0)))))) (sRet (eC .non)) (sNil)) (sSeq (sFld' cTurns "holder" (eVar 0) (eCall (m_next_of cTurns) (aCons (eVar 1) (aCons (eFld cTurns "last" (eVar 0)) (aNil))))) (sSeq (sFld' cTurns "rewards" (eVar 0) (eCall (m_best cTurns) (aCons (eVar 2) (aCons (eLst (eLc (iLst (eVar 1)) (.nm 3) (tBl (eBin dNe (eVar 3) (eFld cTurns "holder" (eVar 0)))) (eVar 3) [3])) (aNil))))) (sSeq (sIf (tBl (eBin dIsN (eFld cTurns "holder" (eVar 0)) (eC .non))) (sSeq (sFld' cTurns "left" (eVar 0) (eC (.int 0))) (sRet (eC .non))) (sNil)) (sSeq (sFld' cTurns "last" (eVar 0) (eFld cTurns "holder" (eVar 0))) (sSeq (sFld' cTurns "left" (eVar 0) (eC (.int 5))) (sRet (eFld cTurns "holder" (eVar 0)))))))))
def m_Turns_step (cTurns : Addr) : DF := gcF (mDef 4 (b_Turns_step cTurns))
def b_law_turn_step (cTurns : Addr) : SM := sSeq (sIf (tBl (eBin (fI gGt) (eBin dGet (eVar 0) (eC (.str "left"))) (eC (.int 0)))) (sDPut' (eVar 0) (eC (.str "left")) (eBin (fI gSub) (eBin dGet (eVar 0) (eC (.str "left"))) (eC (.int 1)))) (sNil)) (sSeq (sIf (tAnd' (tBl (eBin dNotN (eBin dGet (eVar 0) (eC (.str "holder"))) (eC .non))) (tAnd' (tBl (eBin dIn (eBin dGet (eVar 0) (eC (.str "holder"))) (eVar 1))) (tBl (eBin (fI gGt) (eBin dGet (eVar 0) (eC (.str "left"))) (eC (.int 0)))))) (sRet (eC .non)) (sNil)) (sSeq (sDPut' (eVar 0) (eC (.str "holder")) (eCall (m_law_next cTurns) (aCons (eVar 1) (aCons (eBin dGet (eVar 0) (eC (.str "last"))) (aNil))))) (sSeq (sDPut' (eVar 0) (eC (.str "rewards")) (eCall (m_law_best cTurns) (aCons (eVar 2) (aCons (eLst (eLc (iLst (eVar 1)) (.nm 3) (tBl (eBin dNe (eVar 3) (eBin dGet (eVar 0) (eC (.str "holder"))))) (eVar 3) [3])) (aNil))))) (sSeq (sIf (tBl (eBin dIsN (eBin dGet (eVar 0) (eC (.str "holder"))) (eC .non))) (sSeq (sDPut' (eVar 0) (eC (.str "left")) (eC (.int 0))) (sRet (eC .non))) (sNil)) (sSeq (sDPut' (eVar 0) (eC (.str "last")) (eBin dGet (eVar 0) (eC (.str "holder")))) (sSeq (sDPut' (eVar 0) (eC (.str "left")) (eC (.int 5))) (sRet (eBin dGet (eVar 0) (eC (.str "holder"))))))))))
def m_law_turn_step (cTurns : Addr) : DF := gcF (mDef 4 (b_law_turn_step cTurns))
def b_law (cTurns : Addr) : SM := sSeq (sSet 1 (eMake cTurns (m_Turns_init cTurns) aNil)) (sSeq (sSet 2 (eNewD (dDisp [(eC (.str "holder"), eC .non), (eC (.str "last"), eC .non), (eC (.str "left"), eC (.int 0)), (eC (.str "rewards"), eLst (lenOk (aNil)))]))) (sSeq (sSet 3 (eBin (fI gAdd) (eC (.int 7)) (eBin (fI gMod) (eCall (m_law_cell cTurns) (aCons (eVar 0) (aCons (eC (.int 0)) (aNil)))) (eC (.int 54))))) (sSeq (sSet 4 (eLst (eLc (iRange1 (aCons (eVar 3) (aNil))) (.nm 9) (mYes) (eVar 9) [9]))) (sSeq (sSet 5 (eNewD (dEmpty))) (sSeq (sSet 6 (eC (.int 0))) (sSeq (sFor (iRange1 (aCons (eCB cMax2 (aCons (eC (.int 30)) (aCons (eCB cMin2 (aCons (eC (.int 90)) (aCons (eBin (fI gMul) (eC (.int 2)) (eCB cLen (aCons (eVar 0) (aNil)))) (aNil)))) (aNil)))) (aNil))) (.nm 7) (sSeq (sSet 8 (eCall (m_law_rich cTurns) (aCons (eCall (m_law_cell cTurns) (aCons (eVar 0) (aCons (eBin (fI gAdd) (eC (.int 1)) (eBin (fI gDiv) (eVar 7) (eC (.int 2)))) (aNil)))) (aCons (eVar 7) (aNil))))) (sSeq (sIf (tBl (eBin dEq (eBin (fI gMod) (eBin (fI gDiv) (eVar 8) (eC (.int 3))) (eC (.int 3))) (eC (.int 0)))) (sSet 4 (eCall (m_law_wishing cTurns) (aCons (eBin (fI gDiv) (eVar 8) (eC (.int 9))) (aCons (eVar 4) (aCons (eVar 3) (aNil)))))) (sNil)) (sSeq (sIf (tBl (eBin dEq (eBin (fI gMod) (eBin (fI gDiv) (eVar 8) (eC (.int 7))) (eC (.int 11))) (eC (.int 0)))) (sSeq (sSet 9 (eBin (fI gMod) (eBin (fI gDiv) (eVar 8) (eC (.int 77))) (eVar 3))) (sSeq (sExpr (eMeth cTurns "leave" (m_Turns_leave cTurns) (eVar 1) (aCons (eVar 9) (aNil)))) (sSeq (sExpr (eCall (m_law_turn_leave cTurns) (aCons (eVar 2) (aCons (eVar 9) (aNil))))) (sSet 4 (eLst (eLc (iLst (eVar 4)) (.nm 14) (tBl (eBin dNe (eVar 14) (eVar 9))) (eVar 14) [14])))))) (sNil)) (sSeq (sSet 10 (eDct (eCBD cDictP (aCons (eLst (eLc (iRange1 (aCons (eVar 3) (aNil))) (.nm 9) (mYes) (eTup (aCons (eVar 9) (aCons (eBin (fI gMod) (eBin (fI gDiv) (eVar 8) (eBin (fI gAdd) (eC (.int 5)) (eVar 9))) (eC (.int 4))) (aNil)))) [9])) (aNil))))) (sSeq (sSet 11 (eMeth cTurns "step" (m_Turns_step cTurns) (eVar 1) (aCons (eLst (eCB cSeq (aCons (eVar 4) (aNil)))) (aCons (eDct (eCBD cDictD (aCons (eVar 10) (aNil)))) (aNil))))) (sSeq (sSet 12 (eCall (m_law_turn_step cTurns) (aCons (eVar 2) (aCons (eVar 4) (aCons (eVar 10) (aNil)))))) (sSeq (sIf (tOr' (tBl (eBin dNe (eBin dIsN (eVar 12) (eC .non)) (eBin dIsN (eVar 11) (eC .non)))) (tAnd' (tBl (eBin dNotN (eVar 12) (eC .non))) (tNot' (tTru (eCB cIsi (aCons (eVar 11) (aCons (eC (.ty "int")) (aNil)))))))) (sRet (eC (.bl false))) (sNil)) (sSeq (sIf (tOr' (tNot' (tTru (eCB cIsi (aCons (eMeth cTurns "served" (m_Turns_served cTurns) (eVar 1) aNil) (aCons (eC (.ty "list")) (aNil)))))) (tOr' (tBl (eBin dNe (eVar 11) (eVar 12))) (tBl (eBin dNe (eMeth cTurns "served" (m_Turns_served cTurns) (eVar 1) aNil) (eCall (m_law_served cTurns) (aCons (eVar 2) (aNil))))))) (sRet (eC (.bl false))) (sNil)) (sSeq (sSet 6 (eIf (tBl (eBin dNotN (eVar 11) (eC .non))) (eC (.int 1)) (eBin (fI gAdd) (eVar 6) (eC (.int 1))))) (sSeq (sSet 13 (eMeth cTurns "served" (m_Turns_served cTurns) (eVar 1) aNil)) (sSeq (sIf (tOr' (tBl (eBin (fI gGt) (eCB cLen (aCons (eVar 13) (aNil))) (eC (.int 3)))) (tAnd' (tBl (eBin (fI gGt) (eCB cLen (aCons (eVar 13) (aNil))) (eC (.int 0)))) (tBl (eBin (fI gGt) (eVar 6) (eC (.int 5)))))) (sRet (eC (.bl false))) (sNil)) (sFor (iRange1 (aCons (eVar 3) (aNil))) (.nm 9) (sSeq (sDPut' (eVar 5) (eVar 9) (eIf (tOr' (tBl (eBin dNotIn (eVar 9) (eVar 4))) (tBl (eBin dEq (eVar 9) (eVar 11)))) (eC (.int 0)) (eBin (fI gAdd) (eGet2 (eVar 5) (eVar 9) (eC (.int 0))) (eC (.int 1))))) (sIf (tBl (eBin (fI gGt) (eBin dGet (eVar 5) (eVar 9)) (eBin (fI gMul) (eC (.int 5)) (eVar 3)))) (sRet (eC (.bl false))) (sNil)))))))))))))))) (sRet (eC (.bl true)))))))))
def m_law (cTurns : Addr) : DF := gcF (mDef 15 (b_law cTurns))
/-! ### what the top has written -/
structure Tx (K : PySem.W.Frag) (mg : Str → Option Value) where
  cTurns : Addr
  cl_Turns : Cls K cTurns
  mg_Turns : mg "Turns" = some (.ref cTurns)
  mk1_Turns : PySem.W.makesIn K cTurns = true
  kp_Turns : PySem.W.keepIn K (.ref cTurns) = true
  na_Turns_holder : NoAttr K cTurns "holder"
  na_Turns_last : NoAttr K cTurns "last"
  na_Turns_left : NoAttr K cTurns "left"
  na_Turns_rewards : NoAttr K cTurns "rewards"
  f_next_of : Addr
  fd_next_of : FuncData
  Fn_next_of : Fun K "next_of" "next_of" st_next_of f_next_of fd_next_of
  mg_next_of : mg "next_of" = some (.ref f_next_of)
  f_best : Addr
  fd_best : FuncData
  Fn_best : Fun K "best" "best" st_best f_best fd_best
  mg_best : mg "best" = some (.ref f_best)
  f_Turns_init : Addr
  fd_Turns_init : FuncData
  Fn_Turns_init : Fun K "__init__" "Turns.__init__" st_Turns_init f_Turns_init fd_Turns_init
  fi_Turns_init : PySem.W.findIn K (.ref cTurns) "__init__" = some (some (.ref f_Turns_init))
  isf_Turns_init : PySem.W.isFn K (.ref f_Turns_init) = true
  f_Turns_leave : Addr
  fd_Turns_leave : FuncData
  Fn_Turns_leave : Fun K "leave" "Turns.leave" st_Turns_leave f_Turns_leave fd_Turns_leave
  fi_Turns_leave : PySem.W.findIn K (.ref cTurns) "leave" = some (some (.ref f_Turns_leave))
  isf_Turns_leave : PySem.W.isFn K (.ref f_Turns_leave) = true
  f_Turns_served : Addr
  fd_Turns_served : FuncData
  Fn_Turns_served : Fun K "served" "Turns.served" st_Turns_served f_Turns_served fd_Turns_served
  fi_Turns_served : PySem.W.findIn K (.ref cTurns) "served" = some (some (.ref f_Turns_served))
  isf_Turns_served : PySem.W.isFn K (.ref f_Turns_served) = true
  f_law_cell : Addr
  fd_law_cell : FuncData
  Fn_law_cell : Fun K "_law_cell" "_law_cell" st_law_cell f_law_cell fd_law_cell
  mg_law_cell : mg "_law_cell" = some (.ref f_law_cell)
  f_law_rich : Addr
  fd_law_rich : FuncData
  Fn_law_rich : Fun K "_law_rich" "_law_rich" st_law_rich f_law_rich fd_law_rich
  mg_law_rich : mg "_law_rich" = some (.ref f_law_rich)
  f_law_next : Addr
  fd_law_next : FuncData
  Fn_law_next : Fun K "_law_next" "_law_next" st_law_next f_law_next fd_law_next
  mg_law_next : mg "_law_next" = some (.ref f_law_next)
  f_law_best : Addr
  fd_law_best : FuncData
  Fn_law_best : Fun K "_law_best" "_law_best" st_law_best f_law_best fd_law_best
  mg_law_best : mg "_law_best" = some (.ref f_law_best)
  f_law_turn_leave : Addr
  fd_law_turn_leave : FuncData
  Fn_law_turn_leave : Fun K "_law_turn_leave" "_law_turn_leave" st_law_turn_leave f_law_turn_leave fd_law_turn_leave
  mg_law_turn_leave : mg "_law_turn_leave" = some (.ref f_law_turn_leave)
  f_law_served : Addr
  fd_law_served : FuncData
  Fn_law_served : Fun K "_law_served" "_law_served" st_law_served f_law_served fd_law_served
  mg_law_served : mg "_law_served" = some (.ref f_law_served)
  f_law_wishing : Addr
  fd_law_wishing : FuncData
  Fn_law_wishing : Fun K "_law_wishing" "_law_wishing" st_law_wishing f_law_wishing fd_law_wishing
  mg_law_wishing : mg "_law_wishing" = some (.ref f_law_wishing)
  f_Turns_step : Addr
  fd_Turns_step : FuncData
  Fn_Turns_step : Fun K "step" "Turns.step" st_Turns_step f_Turns_step fd_Turns_step
  fi_Turns_step : PySem.W.findIn K (.ref cTurns) "step" = some (some (.ref f_Turns_step))
  isf_Turns_step : PySem.W.isFn K (.ref f_Turns_step) = true
  f_law_turn_step : Addr
  fd_law_turn_step : FuncData
  Fn_law_turn_step : Fun K "_law_turn_step" "_law_turn_step" st_law_turn_step f_law_turn_step fd_law_turn_step
  mg_law_turn_step : mg "_law_turn_step" = some (.ref f_law_turn_step)
  f_law : Addr
  fd_law : FuncData
  Fn_law : Fun K "law" "law" st_law f_law fd_law
  mg_law : mg "law" = some (.ref f_law)
  mg_dict : mg "dict" = none
  mg_int : mg "int" = none
  mg_isinstance : mg "isinstance" = none
  mg_len : mg "len" = none
  mg_list : mg "list" = none
  mg_max : mg "max" = none
  mg_min : mg "min" = none
  mg_range : mg "range" = none
  mg_sorted : mg "sorted" = none
  tk_REWARDS : Tok
  mg_REWARDS : mg "REWARDS" = some (.int 2 tk_REWARDS)
  tk_TURN : Tok
  mg_TURN : mg "TURN" = some (.int 5 tk_TURN)
section
variable {P : Program} {w : World} {K : PySem.W.Frag} {mg : Str → Option Value} {base : Heap}
theorem bi_next_of (T : Tx K mg) : Binds K T.fd_next_of ["numbers", "last"] [] := T.Fn_next_of.binds (ps := ["numbers", "last"]) fun _ _ _ _ _ _ us hl => match us, hl with | [_, _], _ => rfl
theorem sc_next_of : FnScope ["numbers", "last", "behind", "number"] ["numbers", "last"] (defScope st_next_of) := ⟨rfl, rfl, rfl, by decide +kernel, rfl, by decide +kernel, by decide +kernel⟩
theorem ok_next_of (T : Tx K mg) : FnOk P w K mg base (L2.CX P w) 1 T.f_next_of T.fd_next_of ["numbers", "last"] (spOf K 2 (m_next_of T.cTurns)) := gc_ok (def_D T.Fn_next_of sc_next_of fun cdv A outer s H E hr tk =>
  (jb_cons (js_setLc (i := 2) rfl sc_next_of.nd rfl rfl (sw_true rfl rfl rfl (by decide +kernel)) (ji_list (je_var (pv 0))) (blkOk_by (own := [("number", 3)]) (N := ["numbers", "last", "behind", "number"]) (sc := defScope st_next_of) (by decide +kernel)) (fun _ _ _ _ _ => (jg_name (pg_name (i := 3) sc_next_of.nd rfl (Or.inl rfl)))) (fun _ _ _ _ _ => jts_one (jt_bo (jw_or (jt_cmp do_isN (je_var (pv 1)) je_non (nomark _)) (jw_or1 (jt_cmp do_gt (je_var (pv 3)) (je_var (pv 1)) (nomark _)))))) (fun _ _ _ _ _ => (je_var (pv 3))) rfl (by decide))
  (jb_cons (js_if (jt_cmp (do_ne hr.units) (je_var (pv 2)) (je_lst (jl_disp ja_nil)) (nomark _))
  (jb_one (js_ret (je_callB (dc_min rfl) rfl T.mg_min (by decide +kernel) (ja_cons (je_var (pv 2)) ja_nil))))
  jb_nil)
  (jb_one (js_ret (je_if (jt_cmp (do_ne hr.units) (je_var (pv 0)) (je_lst (jl_disp ja_nil)) (nomark _)) (je_callB (dc_min rfl) rfl T.mg_min (by decide +kernel) (ja_cons (je_var (pv 0)) ja_nil)) je_non))))))
theorem bi_best (T : Tx K mg) : Binds K T.fd_best ["given", "numbers"] [] := T.Fn_best.binds (ps := ["given", "numbers"]) fun _ _ _ _ _ _ us hl => match us, hl with | [_, _], _ => rfl
theorem sc_best : FnScope ["given", "numbers", "rows", "number", "_"] ["given", "numbers"] (defScope st_best) := ⟨rfl, rfl, rfl, by decide +kernel, rfl, by decide +kernel, by decide +kernel⟩
theorem ok_best (T : Tx K mg) : FnOk P w K mg base (L2.CX P w) 1 T.f_best T.fd_best ["given", "numbers"] (spOf K 2 (m_best T.cTurns)) := gc_ok (def_D T.Fn_best sc_best fun cdv A outer s H E hr tk =>
  (jb_cons (js_setE (i := 2) (je_lst (jl_callB dc_sortedP rfl T.mg_sorted (by decide +kernel) (ja_cons (je_lst (jl_lc rfl sc_best.nd (ji_list (je_var (pv 1))) (blkOk_by (own := [("number", 3)]) (N := ["given", "numbers", "rows", "number", "_"]) (sc := defScope st_best) (by decide +kernel)) (fun _ _ _ _ _ => (jg_name (pg_name (i := 3) sc_best.nd rfl (Or.inl rfl)))) (fun _ _ _ _ _ => jts_one (jt_cmp do_gt (je_get2 (hu_of hr) (je_var (pv 0)) (je_var (pv 3)) je_int ⟨rfl, rfl, rfl, rfl⟩) je_int (nomark _))) (fun _ _ _ _ _ => (je_tup (ja_cons (je_neg (je_dget (hu_of hr) (je_var (pv 0)) (je_var (pv 3)) (fun _ _ => rfl))) (ja_cons (je_var (pv 3)) ja_nil)))) rfl (by decide))) ja_nil))) sc_best.nd rfl (Or.inl rfl))
  (jb_one (js_ret (je_lst (jl_lc rfl sc_best.nd (ji_new (jl_slice (je_var (pv 2)) jo_none (jo_some (je_c (pe_glob (v := .int 2) rfl T.mg_REWARDS ⟨_, rfl⟩) fun _ _ => .int _)))) (blkOk_by (own := [("_", 4), ("number", 3)]) (N := ["given", "numbers", "rows", "number", "_"]) (sc := defScope st_best) (by decide +kernel)) (fun _ _ _ _ _ => (jg_tup rfl (jgs_cons (jg_name (pg_name (i := 4) sc_best.nd rfl (Or.inl rfl))) (jgs_cons (jg_name (pg_name (i := 3) sc_best.nd rfl (Or.inl rfl))) jgs_nil)))) (fun _ _ _ _ _ => jts_nil) (fun _ _ _ _ _ => (je_var (pv 3))) rfl (by decide)))))))
theorem bi_Turns_init (T : Tx K mg) : Binds K T.fd_Turns_init ["self"] [] := T.Fn_Turns_init.binds (ps := ["self"]) fun _ _ _ _ _ _ us hl => match us, hl with | [_], _ => rfl
theorem mk_Turns (T : Tx K mg) : Mk K T.cTurns T.f_Turns_init := ⟨T.mk1_Turns, T.fi_Turns_init, T.isf_Turns_init, T.kp_Turns⟩
theorem sc_Turns_init : FnScope ["self"] ["self"] (defScope st_Turns_init) := ⟨rfl, rfl, rfl, by decide +kernel, rfl, by decide +kernel, by decide +kernel⟩
theorem ok_Turns_init (T : Tx K mg) : FnOk P w K mg base (L2.CX P w) 1 T.f_Turns_init T.fd_Turns_init ["self"] (spOf K 1 (m_Turns_init T.cTurns)) := gc_ok (def_D T.Fn_Turns_init sc_Turns_init fun cdv A outer s H E hr tk =>
  (jb_cons (js_fld (je_var (pv 0)) je_non T.cl_Turns T.na_Turns_holder rfl)
  (jb_cons (js_fld (je_var (pv 0)) je_non T.cl_Turns T.na_Turns_last rfl)
  (jb_cons (js_fld (je_var (pv 0)) je_int T.cl_Turns T.na_Turns_left rfl)
  (jb_one (js_fld (je_var (pv 0)) (je_lst (jl_disp ja_nil)) T.cl_Turns T.na_Turns_rewards rfl))))))
theorem bi_Turns_leave (T : Tx K mg) : Binds K T.fd_Turns_leave ["self", "number"] [] := T.Fn_Turns_leave.binds (ps := ["self", "number"]) fun _ _ _ _ _ _ us hl => match us, hl with | [_, _], _ => rfl
theorem me_Turns_leave (T : Tx K mg) : Meth K T.cTurns "leave" T.f_Turns_leave := ⟨T.fi_Turns_leave, T.isf_Turns_leave, T.Fn_Turns_leave.kp⟩
theorem sc_Turns_leave : FnScope ["self", "number", "other"] ["self", "number"] (defScope st_Turns_leave) := ⟨rfl, rfl, rfl, by decide +kernel, rfl, by decide +kernel, by decide +kernel⟩
theorem ok_Turns_leave (T : Tx K mg) : FnOk P w K mg base (L2.CX P w) 1 T.f_Turns_leave T.fd_Turns_leave ["self", "number"] (spOf K 2 (m_Turns_leave T.cTurns)) := gc_ok (def_D T.Fn_Turns_leave sc_Turns_leave fun cdv A outer s H E hr tk =>
  (jb_cons (js_if (jt_cmp (do_eq hr.units) (je_fld (je_var (pv 0)) T.cl_Turns T.na_Turns_holder rfl) (je_var (pv 1)) (nomark _))
  (jb_cons (js_fld (je_var (pv 0)) je_non T.cl_Turns T.na_Turns_holder rfl)
  (jb_one (js_fld (je_var (pv 0)) je_int T.cl_Turns T.na_Turns_left rfl)))
  jb_nil)
  (jb_one (js_fld (je_var (pv 0)) (je_lst (jl_lc rfl sc_Turns_leave.nd (ji_list (je_fld (je_var (pv 0)) T.cl_Turns T.na_Turns_rewards rfl)) (blkOk_by (own := [("other", 2)]) (N := ["self", "number", "other"]) (sc := defScope st_Turns_leave) (by decide +kernel)) (fun _ _ _ _ _ => (jg_name (pg_name (i := 2) sc_Turns_leave.nd rfl (Or.inl rfl)))) (fun _ _ _ _ _ => jts_one (jt_cmp (do_ne hr.units) (je_var (pv 2)) (je_var (pv 1)) (nomark _))) (fun _ _ _ _ _ => (je_var (pv 2))) rfl (by decide))) T.cl_Turns T.na_Turns_rewards rfl))))
theorem bi_Turns_served (T : Tx K mg) : Binds K T.fd_Turns_served ["self"] [] := T.Fn_Turns_served.binds (ps := ["self"]) fun _ _ _ _ _ _ us hl => match us, hl with | [_], _ => rfl
theorem me_Turns_served (T : Tx K mg) : Meth K T.cTurns "served" T.f_Turns_served := ⟨T.fi_Turns_served, T.isf_Turns_served, T.Fn_Turns_served.kp⟩
theorem sc_Turns_served : FnScope ["self", "found"] ["self"] (defScope st_Turns_served) := ⟨rfl, rfl, rfl, by decide +kernel, rfl, by decide +kernel, by decide +kernel⟩
theorem ok_Turns_served (T : Tx K mg) : FnOk P w K mg base (L2.CX P w) 1 T.f_Turns_served T.fd_Turns_served ["self"] (spOf K 1 (m_Turns_served T.cTurns)) := gc_ok (def_D T.Fn_Turns_served sc_Turns_served fun cdv A outer s H E hr tk =>
  (jb_cons (js_setE (i := 1) (je_new (jl_callTy dc_list rfl T.mg_list (by decide +kernel) (ja_cons (je_fld (je_var (pv 0)) T.cl_Turns T.na_Turns_rewards rfl) ja_nil))) sc_Turns_served.nd rfl (Or.inl rfl))
  (jb_cons (js_if (jt_cmp do_notN (je_fld (je_var (pv 0)) T.cl_Turns T.na_Turns_holder rfl) je_non (nomark _))
  (jb_one (js_expr (je_append (je_var (pv 1)) (ja_cons (je_fld (je_var (pv 0)) T.cl_Turns T.na_Turns_holder rfl) ja_nil))))
  jb_nil)
  (jb_one (js_ret (je_lst (jl_callB dc_sorted rfl T.mg_sorted (by decide +kernel) (ja_cons (je_var (pv 1)) ja_nil))))))))
theorem bi_law_cell (T : Tx K mg) : Binds K T.fd_law_cell ["script", "k"] [] := T.Fn_law_cell.binds (ps := ["script", "k"]) fun _ _ _ _ _ _ us hl => match us, hl with | [_, _], _ => rfl
theorem sc_law_cell : FnScope ["script", "k"] ["script", "k"] (defScope st_law_cell) := ⟨rfl, rfl, rfl, by decide +kernel, rfl, by decide +kernel, by decide +kernel⟩
theorem ok_law_cell (T : Tx K mg) : FnOk P w K mg base (L2.CX P w) 1 T.f_law_cell T.fd_law_cell ["script", "k"] (spOf K 2 (m_law_cell T.cTurns)) := gc_ok (def_D T.Fn_law_cell sc_law_cell fun cdv A outer s H E hr tk =>
  (jb_cons (js_if (jt_cmp do_lt (je_var (pv 1)) (je_callB dc_len rfl T.mg_len (by decide +kernel) (ja_cons (je_var (pv 0)) ja_nil)) (nomark _))
  (jb_one (js_ret (je_callTy dc_int rfl T.mg_int (by decide +kernel) (ja_cons (je_ix (je_var (pv 0)) (je_var (pv 1)) (fun _ _ => rfl)) ja_nil))))
  jb_nil)
  (jb_one (js_ret je_int))))
theorem bi_law_rich (T : Tx K mg) : Binds K T.fd_law_rich ["cell", "k"] [] := T.Fn_law_rich.binds (ps := ["cell", "k"]) fun _ _ _ _ _ _ us hl => match us, hl with | [_, _], _ => rfl
theorem sc_law_rich : FnScope ["cell", "k", "mixed"] ["cell", "k"] (defScope st_law_rich) := ⟨rfl, rfl, rfl, by decide +kernel, rfl, by decide +kernel, by decide +kernel⟩
theorem ok_law_rich (T : Tx K mg) : FnOk P w K mg base (L2.CX P w) 1 T.f_law_rich T.fd_law_rich ["cell", "k"] (spOf K 2 (m_law_rich T.cTurns)) := gc_ok (def_D T.Fn_law_rich sc_law_rich fun cdv A outer s H E hr tk =>
  (jb_cons (js_if (jt_cmp do_ge (je_var (pv 0)) (je_bin do_pow je_int je_int) (nomark _))
  (jb_one (js_ret (je_callTy dc_int rfl T.mg_int (by decide +kernel) (ja_cons (je_var (pv 0)) ja_nil))))
  jb_nil)
  (jb_cons (js_setE (i := 2) (je_bin do_mod (je_callTy dc_int rfl T.mg_int (by decide +kernel) (ja_cons (je_bin do_add (je_bin do_add (je_bin do_mul (je_var (pv 0)) je_int) (je_bin do_mul (je_var (pv 1)) je_int)) je_int) ja_nil)) je_int) sc_law_rich.nd rfl (Or.inl rfl))
  (jb_one (js_ret (je_bin do_add (je_bin do_mul (je_var (pv 2)) je_int) (je_bin do_mod (je_callTy dc_int rfl T.mg_int (by decide +kernel) (ja_cons (je_bin do_add (je_bin do_mul (je_var (pv 2)) je_int) (je_var (pv 0))) ja_nil)) je_int)))))))
theorem bi_law_next (T : Tx K mg) : Binds K T.fd_law_next ["wishing", "last"] [] := T.Fn_law_next.binds (ps := ["wishing", "last"]) fun _ _ _ _ _ _ us hl => match us, hl with | [_, _], _ => rfl
theorem sc_law_next : FnScope ["wishing", "last", "behind", "number"] ["wishing", "last"] (defScope st_law_next) := ⟨rfl, rfl, rfl, by decide +kernel, rfl, by decide +kernel, by decide +kernel⟩
theorem ok_law_next (T : Tx K mg) : FnOk P w K mg base (L2.CX P w) 1 T.f_law_next T.fd_law_next ["wishing", "last"] (spOf K 2 (m_law_next T.cTurns)) := gc_ok (def_D T.Fn_law_next sc_law_next fun cdv A outer s H E hr tk =>
  (jb_cons (js_setLc (i := 2) rfl sc_law_next.nd rfl rfl (sw_true rfl rfl rfl (by decide +kernel)) (ji_list (je_var (pv 0))) (blkOk_by (own := [("number", 3)]) (N := ["wishing", "last", "behind", "number"]) (sc := defScope st_law_next) (by decide +kernel)) (fun _ _ _ _ _ => (jg_name (pg_name (i := 3) sc_law_next.nd rfl (Or.inl rfl)))) (fun _ _ _ _ _ => jts_one (jt_bo (jw_or (jt_cmp do_isN (je_var (pv 1)) je_non (nomark _)) (jw_or1 (jt_cmp do_gt (je_var (pv 3)) (je_var (pv 1)) (nomark _)))))) (fun _ _ _ _ _ => (je_var (pv 3))) rfl (by decide))
  (jb_cons (js_if (jt_cmp do_gt (je_callB dc_len rfl T.mg_len (by decide +kernel) (ja_cons (je_var (pv 2)) ja_nil)) je_int (nomark _))
  (jb_one (js_ret (je_ix (je_var (pv 2)) je_int (fun _ _ => rfl))))
  jb_nil)
  (jb_one (js_ret (je_if (jt_cmp do_gt (je_callB dc_len rfl T.mg_len (by decide +kernel) (ja_cons (je_var (pv 0)) ja_nil)) je_int (nomark _)) (je_ix (je_var (pv 0)) je_int (fun _ _ => rfl)) je_non))))))
theorem bi_law_best (T : Tx K mg) : Binds K T.fd_law_best ["given", "numbers"] [] := T.Fn_law_best.binds (ps := ["given", "numbers"]) fun _ _ _ _ _ _ us hl => match us, hl with | [_, _], _ => rfl
theorem sc_law_best : FnScope ["given", "numbers", "found", "number", "count", "at"] ["given", "numbers"] (defScope st_law_best) := ⟨rfl, rfl, rfl, by decide +kernel, rfl, by decide +kernel, by decide +kernel⟩
theorem ok_law_best (T : Tx K mg) : FnOk P w K mg base (L2.CX P w) 1 T.f_law_best T.fd_law_best ["given", "numbers"] (spOf K 2 (m_law_best T.cTurns)) := gc_ok (def_D T.Fn_law_best sc_law_best fun cdv A outer s H E hr tk =>
  (jb_cons (js_setE (i := 2) (je_lst (jl_disp ja_nil)) sc_law_best.nd rfl (Or.inl rfl))
  (jb_cons (js_for (passes_of rfl) rfl (ji_list (je_var (pv 1))) (jg_name (pg_name (i := 3) sc_law_best.nd rfl (Or.inl rfl)))
  (jb_cons (js_setE (i := 4) (je_get2 (hu_of hr) (je_var (pv 0)) (je_var (pv 3)) je_int ⟨rfl, rfl, rfl, rfl⟩) sc_law_best.nd rfl (Or.inl rfl))
  (jb_cons (js_setE (i := 5) je_int sc_law_best.nd rfl (Or.inl rfl))
  (jb_cons (js_while 1000 (passes_of rfl) (jt_bo (jw_and (jt_cmp do_lt (je_var (pv 5)) (je_callB dc_len rfl T.mg_len (by decide +kernel) (ja_cons (je_var (pv 2)) ja_nil)) (nomark _)) (jw_and1 (jt_cmp do_ge (je_get2 (hu_of hr) (je_var (pv 0)) (je_ix (je_var (pv 2)) (je_var (pv 5)) (fun _ _ => rfl)) je_int ⟨rfl, rfl, rfl, rfl⟩) (je_var (pv 4)) (nomark _)))))
  (jb_one (js_setE (i := 5) (je_bin do_add (je_var (pv 5)) je_int) sc_law_best.nd rfl (Or.inl rfl))))
  (jb_one (js_if (jt_cmp do_gt (je_var (pv 4)) je_int (nomark _))
  (jb_one (js_setE (i := 2) (je_lst (jl_bin do_catL (je_lst (jl_bin do_catL (je_lst (jl_slice (je_var (pv 2)) jo_none (jo_some (je_var (pv 5))))) (je_lst (jl_disp (ja_cons (je_var (pv 3)) ja_nil))))) (je_lst (jl_slice (je_var (pv 2)) (jo_some (je_var (pv 5))) jo_none)))) sc_law_best.nd rfl (Or.inl rfl)))
  jb_nil))))))
  (jb_one (js_ret (je_lst (jl_slice (je_var (pv 2)) jo_none (jo_some je_int))))))))
theorem bi_law_turn_leave (T : Tx K mg) : Binds K T.fd_law_turn_leave ["state", "number"] [] := T.Fn_law_turn_leave.binds (ps := ["state", "number"]) fun _ _ _ _ _ _ us hl => match us, hl with | [_, _], _ => rfl
theorem sc_law_turn_leave : FnScope ["state", "number", "other"] ["state", "number"] (defScope st_law_turn_leave) := ⟨rfl, rfl, rfl, by decide +kernel, rfl, by decide +kernel, by decide +kernel⟩
theorem ok_law_turn_leave (T : Tx K mg) : FnOk P w K mg base (L2.CX P w) 1 T.f_law_turn_leave T.fd_law_turn_leave ["state", "number"] (spOf K 2 (m_law_turn_leave T.cTurns)) := gc_ok (def_D T.Fn_law_turn_leave sc_law_turn_leave fun cdv A outer s H E hr tk =>
  (jb_cons (js_if (jt_cmp (do_eq hr.units) (je_dget (hu_of hr) (je_var (pv 0)) je_str (fun _ _ => rfl)) (je_var (pv 1)) (nomark _))
  (jb_cons (js_dput (hu_of hr) (je_var (pv 0)) je_str je_non rfl)
  (jb_one (js_dput (hu_of hr) (je_var (pv 0)) je_str je_int rfl)))
  jb_nil)
  (jb_one (js_dput (hu_of hr) (je_var (pv 0)) je_str (je_lst (jl_lc rfl sc_law_turn_leave.nd (ji_list (je_dget (hu_of hr) (je_var (pv 0)) je_str (fun _ _ => rfl))) (blkOk_by (own := [("other", 2)]) (N := ["state", "number", "other"]) (sc := defScope st_law_turn_leave) (by decide +kernel)) (fun _ _ _ _ _ => (jg_name (pg_name (i := 2) sc_law_turn_leave.nd rfl (Or.inl rfl)))) (fun _ _ _ _ _ => jts_one (jt_cmp (do_ne hr.units) (je_var (pv 2)) (je_var (pv 1)) (nomark _))) (fun _ _ _ _ _ => (je_var (pv 2))) rfl (by decide))) rfl))))
theorem bi_law_served (T : Tx K mg) : Binds K T.fd_law_served ["state"] [] := T.Fn_law_served.binds (ps := ["state"]) fun _ _ _ _ _ _ us hl => match us, hl with | [_], _ => rfl
theorem sc_law_served : FnScope ["state", "own"] ["state"] (defScope st_law_served) := ⟨rfl, rfl, rfl, by decide +kernel, rfl, by decide +kernel, by decide +kernel⟩
theorem ok_law_served (T : Tx K mg) : FnOk P w K mg base (L2.CX P w) 1 T.f_law_served T.fd_law_served ["state"] (spOf K 1 (m_law_served T.cTurns)) := gc_ok (def_D T.Fn_law_served sc_law_served fun cdv A outer s H E hr tk =>
  (jb_cons (js_setE (i := 1) (je_if (jt_cmp do_notN (je_dget (hu_of hr) (je_var (pv 0)) je_str (fun _ _ => rfl)) je_non (nomark _)) (je_lst (jl_disp (ja_cons (je_dget (hu_of hr) (je_var (pv 0)) je_str (fun _ _ => rfl)) ja_nil))) (je_lst (jl_disp ja_nil))) sc_law_served.nd rfl (Or.inl rfl))
  (jb_one (js_ret (je_lst (jl_callB dc_sorted rfl T.mg_sorted (by decide +kernel) (ja_cons (je_lst (jl_bin do_catL (je_var (pv 1)) (je_dget (hu_of hr) (je_var (pv 0)) je_str (fun _ _ => rfl)))) ja_nil)))))))
theorem bi_law_wishing (T : Tx K mg) : Binds K T.fd_law_wishing ["rich", "before", "count"] [] := T.Fn_law_wishing.binds (ps := ["rich", "before", "count"]) fun _ _ _ _ _ _ us hl => match us, hl with | [_, _, _], _ => rfl
theorem sc_law_wishing : FnScope ["rich", "before", "count", "kind", "gone", "number"] ["rich", "before", "count"] (defScope st_law_wishing) := ⟨rfl, rfl, rfl, by decide +kernel, rfl, by decide +kernel, by decide +kernel⟩
theorem ok_law_wishing (T : Tx K mg) : FnOk P w K mg base (L2.CX P w) 1 T.f_law_wishing T.fd_law_wishing ["rich", "before", "count"] (spOf K 3 (m_law_wishing T.cTurns)) := gc_ok (def_D T.Fn_law_wishing sc_law_wishing fun cdv A outer s H E hr tk =>
  (jb_cons (js_setE (i := 3) (je_bin do_mod (je_var (pv 0)) je_int) sc_law_wishing.nd rfl (Or.inl rfl))
  (jb_cons (js_if (jt_cmp (do_eq hr.units) (je_var (pv 3)) je_int (nomark _))
  (jb_one (js_ret (je_lst (jl_lc rfl sc_law_wishing.nd (ji_range1 rfl T.mg_range (ja_cons (je_var (pv 2)) ja_nil)) (blkOk_by (own := [("number", 5)]) (N := ["rich", "before", "count", "kind", "gone", "number"]) (sc := defScope st_law_wishing) (by decide +kernel)) (fun _ _ _ _ _ => (jg_name (pg_name (i := 5) sc_law_wishing.nd rfl (Or.inl rfl)))) (fun _ _ _ _ _ => jts_one (jt_cmp (do_ne hr.units) (je_bin do_mod (je_bin do_div (je_var (pv 0)) je_int) je_int) (je_bin do_mod (je_callTy dc_int rfl T.mg_int (by decide +kernel) (ja_cons (je_var (pv 5)) ja_nil)) je_int) (nomark _))) (fun _ _ _ _ _ => (je_var (pv 5))) rfl (by decide)))))
  jb_nil)
  (jb_cons (js_if (jt_cmp (do_eq hr.units) (je_var (pv 3)) je_int (nomark _))
  (jb_one (js_ret (je_lst (jl_lc rfl sc_law_wishing.nd (ji_range1 rfl T.mg_range (ja_cons (je_var (pv 2)) ja_nil)) (blkOk_by (own := [("number", 5)]) (N := ["rich", "before", "count", "kind", "gone", "number"]) (sc := defScope st_law_wishing) (by decide +kernel)) (fun _ _ _ _ _ => (jg_name (pg_name (i := 5) sc_law_wishing.nd rfl (Or.inl rfl)))) (fun _ _ _ _ _ => jts_one (jt_bo (jw_or (jt_cmp do_notIn (je_var (pv 5)) (je_var (pv 1)) rfl) (jw_or1 (jt_cmp (do_eq hr.units) (je_bin do_mod (je_var (pv 5)) je_int) (je_bin do_mod (je_bin do_div (je_var (pv 0)) je_int) je_int) (nomark _)))))) (fun _ _ _ _ _ => (je_var (pv 5))) rfl (by decide)))))
  jb_nil)
  (jb_cons (js_if (jt_cmp (do_eq hr.units) (je_var (pv 3)) je_int (nomark _))
  (jb_cons (js_setE (i := 4) (je_bin do_mod (je_bin do_div (je_var (pv 0)) je_int) (je_var (pv 2))) sc_law_wishing.nd rfl (Or.inr rfl))
  (jb_one (js_ret (je_lst (jl_lc rfl sc_law_wishing.nd (ji_list (je_var (pv 1))) (blkOk_by (own := [("number", 5)]) (N := ["rich", "before", "count", "kind", "gone", "number"]) (sc := defScope st_law_wishing) (by decide +kernel)) (fun _ _ _ _ _ => (jg_name (pg_name (i := 5) sc_law_wishing.nd rfl (Or.inl rfl)))) (fun _ _ _ _ _ => jts_one (jt_cmp (do_ne hr.units) (je_var (pv 5)) (je_var (pv 4)) (nomark _))) (fun _ _ _ _ _ => (je_var (pv 5))) rfl (by decide))))))
  jb_nil)
  (jb_one (js_ret (je_lst (jl_callB (dc_sortedD rfl) rfl T.mg_sorted (by decide +kernel) (ja_cons (je_dct (jd_dictP rfl rfl T.mg_dict (by decide +kernel) (ja_cons (je_lst (jl_lc rfl sc_law_wishing.nd (ji_new (jl_bin do_catL (je_var (pv 1)) (je_lst (jl_disp (ja_cons (je_bin do_mod (je_bin do_div (je_var (pv 0)) je_int) (je_var (pv 2))) ja_nil))))) (blkOk_by (own := [("number", 5)]) (N := ["rich", "before", "count", "kind", "gone", "number"]) (sc := defScope st_law_wishing) (by decide +kernel)) (fun _ _ _ _ _ => (jg_name (pg_name (i := 5) sc_law_wishing.nd rfl (Or.inl rfl)))) (fun _ _ _ _ _ => jts_nil) (fun _ _ _ _ _ => (je_tup (ja_cons (je_var (pv 5)) (ja_cons je_bl ja_nil)))) rfl (by decide))) ja_nil))) ja_nil))))))))))
theorem bi_Turns_step (T : Tx K mg) : Binds K T.fd_Turns_step ["self", "wishing", "given"] [] := T.Fn_Turns_step.binds (ps := ["self", "wishing", "given"]) fun _ _ _ _ _ _ us hl => match us, hl with | [_, _, _], _ => rfl
theorem me_Turns_step (T : Tx K mg) : Meth K T.cTurns "step" T.f_Turns_step := ⟨T.fi_Turns_step, T.isf_Turns_step, T.Fn_Turns_step.kp⟩
theorem sc_Turns_step : FnScope ["self", "wishing", "given", "number"] ["self", "wishing", "given"] (defScope st_Turns_step) := ⟨rfl, rfl, rfl, by decide +kernel, rfl, by decide +kernel, by decide +kernel⟩
theorem ok_Turns_step (T : Tx K mg) : FnOk P w K mg base (L2.CX P w) 2 T.f_Turns_step T.fd_Turns_step ["self", "wishing", "given"] (spOf K 3 (m_Turns_step T.cTurns)) := gc_ok (def_D T.Fn_Turns_step sc_Turns_step fun cdv A outer s H E hr tk =>
  (jb_cons (js_if (jt_cmp do_gt (je_fld (je_var (pv 0)) T.cl_Turns T.na_Turns_left rfl) je_int (nomark _))
  (jb_one (js_fldaug (je_var (pv 0)) je_int in_sub T.cl_Turns T.na_Turns_left (fun i j _ _ q => ⟨i, j, rfl, rfl, q⟩)))
  jb_nil)
  (jb_cons (js_if (jt_bo (jw_and (jt_cmp do_notN (je_fld (je_var (pv 0)) T.cl_Turns T.na_Turns_holder rfl) je_non (nomark _)) (jw_and (jt_cmp do_in (je_fld (je_var (pv 0)) T.cl_Turns T.na_Turns_holder rfl) (je_var (pv 1)) rfl) (jw_and1 (jt_cmp do_gt (je_fld (je_var (pv 0)) T.cl_Turns T.na_Turns_left rfl) je_int (nomark _))))))
  (jb_one (js_ret je_non))
  jb_nil)
  (jb_cons (js_fld (je_var (pv 0)) (je_call (ok_next_of T) (hr.mono (by decide)) rfl T.mg_next_of T.Fn_next_of.kp (bi_next_of T) tk (ja_cons (je_var (pv 1)) (ja_cons (je_fld (je_var (pv 0)) T.cl_Turns T.na_Turns_last rfl) ja_nil)) rfl (aLen_cons (aLen_cons aLen_nil))) T.cl_Turns T.na_Turns_holder rfl)
  (jb_cons (js_fld (je_var (pv 0)) (je_call (ok_best T) (hr.mono (by decide)) rfl T.mg_best T.Fn_best.kp (bi_best T) tk (ja_cons (je_var (pv 2)) (ja_cons (je_lst (jl_lc rfl sc_Turns_step.nd (ji_list (je_var (pv 1))) (blkOk_by (own := [("number", 3)]) (N := ["self", "wishing", "given", "number"]) (sc := defScope st_Turns_step) (by decide +kernel)) (fun _ _ _ _ _ => (jg_name (pg_name (i := 3) sc_Turns_step.nd rfl (Or.inl rfl)))) (fun _ _ _ _ _ => jts_one (jt_cmp (do_ne hr.units) (je_var (pv 3)) (je_fld (je_var (pv 0)) T.cl_Turns T.na_Turns_holder rfl) (nomark _))) (fun _ _ _ _ _ => (je_var (pv 3))) rfl (by decide))) ja_nil)) rfl (aLen_cons (aLen_cons aLen_nil))) T.cl_Turns T.na_Turns_rewards rfl)
  (jb_cons (js_if (jt_cmp do_isN (je_fld (je_var (pv 0)) T.cl_Turns T.na_Turns_holder rfl) je_non (nomark _))
  (jb_cons (js_fld (je_var (pv 0)) je_int T.cl_Turns T.na_Turns_left rfl)
  (jb_one (js_ret je_non)))
  jb_nil)
  (jb_cons (js_fld (je_var (pv 0)) (je_fld (je_var (pv 0)) T.cl_Turns T.na_Turns_holder rfl) T.cl_Turns T.na_Turns_last rfl)
  (jb_cons (js_fld (je_var (pv 0)) (je_c (pe_glob (v := .int 5) rfl T.mg_TURN ⟨_, rfl⟩) fun _ _ => .int _) T.cl_Turns T.na_Turns_left rfl)
  (jb_one (js_ret (je_fld (je_var (pv 0)) T.cl_Turns T.na_Turns_holder rfl)))))))))))
theorem bi_law_turn_step (T : Tx K mg) : Binds K T.fd_law_turn_step ["state", "wishing", "given"] [] := T.Fn_law_turn_step.binds (ps := ["state", "wishing", "given"]) fun _ _ _ _ _ _ us hl => match us, hl with | [_, _, _], _ => rfl
theorem sc_law_turn_step : FnScope ["state", "wishing", "given", "number"] ["state", "wishing", "given"] (defScope st_law_turn_step) := ⟨rfl, rfl, rfl, by decide +kernel, rfl, by decide +kernel, by decide +kernel⟩
theorem ok_law_turn_step (T : Tx K mg) : FnOk P w K mg base (L2.CX P w) 2 T.f_law_turn_step T.fd_law_turn_step ["state", "wishing", "given"] (spOf K 3 (m_law_turn_step T.cTurns)) := gc_ok (def_D T.Fn_law_turn_step sc_law_turn_step fun cdv A outer s H E hr tk =>
  (jb_cons (js_if (jt_cmp do_gt (je_dget (hu_of hr) (je_var (pv 0)) je_str (fun _ _ => rfl)) je_int (nomark _))
  (jb_one (js_dput (hu_of hr) (je_var (pv 0)) je_str (je_bin do_sub (je_dget (hu_of hr) (je_var (pv 0)) je_str (fun _ _ => rfl)) je_int) rfl))
  jb_nil)
  (jb_cons (js_if (jt_bo (jw_and (jt_cmp do_notN (je_dget (hu_of hr) (je_var (pv 0)) je_str (fun _ _ => rfl)) je_non (nomark _)) (jw_and (jt_cmp do_in (je_dget (hu_of hr) (je_var (pv 0)) je_str (fun _ _ => rfl)) (je_var (pv 1)) rfl) (jw_and1 (jt_cmp do_gt (je_dget (hu_of hr) (je_var (pv 0)) je_str (fun _ _ => rfl)) je_int (nomark _))))))
  (jb_one (js_ret je_non))
  jb_nil)
  (jb_cons (js_dput (hu_of hr) (je_var (pv 0)) je_str (je_call (ok_law_next T) (hr.mono (by decide)) rfl T.mg_law_next T.Fn_law_next.kp (bi_law_next T) tk (ja_cons (je_var (pv 1)) (ja_cons (je_dget (hu_of hr) (je_var (pv 0)) je_str (fun _ _ => rfl)) ja_nil)) rfl (aLen_cons (aLen_cons aLen_nil))) rfl)
  (jb_cons (js_dput (hu_of hr) (je_var (pv 0)) je_str (je_call (ok_law_best T) (hr.mono (by decide)) rfl T.mg_law_best T.Fn_law_best.kp (bi_law_best T) tk (ja_cons (je_var (pv 2)) (ja_cons (je_lst (jl_lc rfl sc_law_turn_step.nd (ji_list (je_var (pv 1))) (blkOk_by (own := [("number", 3)]) (N := ["state", "wishing", "given", "number"]) (sc := defScope st_law_turn_step) (by decide +kernel)) (fun _ _ _ _ _ => (jg_name (pg_name (i := 3) sc_law_turn_step.nd rfl (Or.inl rfl)))) (fun _ _ _ _ _ => jts_one (jt_cmp (do_ne hr.units) (je_var (pv 3)) (je_dget (hu_of hr) (je_var (pv 0)) je_str (fun _ _ => rfl)) (nomark _))) (fun _ _ _ _ _ => (je_var (pv 3))) rfl (by decide))) ja_nil)) rfl (aLen_cons (aLen_cons aLen_nil))) rfl)
  (jb_cons (js_if (jt_cmp do_isN (je_dget (hu_of hr) (je_var (pv 0)) je_str (fun _ _ => rfl)) je_non (nomark _))
  (jb_cons (js_dput (hu_of hr) (je_var (pv 0)) je_str je_int rfl)
  (jb_one (js_ret je_non)))
  jb_nil)
  (jb_cons (js_dput (hu_of hr) (je_var (pv 0)) je_str (je_dget (hu_of hr) (je_var (pv 0)) je_str (fun _ _ => rfl)) rfl)
  (jb_cons (js_dput (hu_of hr) (je_var (pv 0)) je_str je_int rfl)
  (jb_one (js_ret (je_dget (hu_of hr) (je_var (pv 0)) je_str (fun _ _ => rfl))))))))))))
theorem bi_law (T : Tx K mg) : Binds K T.fd_law ["script"] [] := T.Fn_law.binds (ps := ["script"]) fun _ _ _ _ _ _ us hl => match us, hl with | [_], _ => rfl
theorem sc_law : FnScope ["script", "turns", "state", "count", "wishing", "waits", "held", "k", "rich", "number", "given", "dealt", "due", "served", "other"] ["script"] (defScope st_law) := ⟨rfl, rfl, rfl, by decide +kernel, rfl, by decide +kernel, by decide +kernel⟩
theorem ok_law (T : Tx K mg) : FnOk P w K mg base (L2.CX P w) 3 T.f_law T.fd_law ["script"] (spOf K 1 (m_law T.cTurns)) := gc_ok (def_D T.Fn_law sc_law fun cdv A outer s H E hr tk =>
  (jb_cons (js_setE (i := 1) (je_make0 (mk_Turns T) (ok_Turns_init T) (hr.mono (by decide)) rfl T.mg_Turns (bi_Turns_init T)) sc_law.nd rfl (Or.inl rfl))
  (jb_cons (js_setE (i := 2) (je_newD (jd_disp (jps_cons je_str je_non (jps_cons je_str je_non (jps_cons je_str je_int (jps_cons je_str (je_lst (jl_disp ja_nil)) jps_nil)))))) sc_law.nd rfl (Or.inl rfl))
  (jb_cons (js_setE (i := 3) (je_bin do_add je_int (je_bin do_mod (je_call (ok_law_cell T) (hr.mono (by decide)) rfl T.mg_law_cell T.Fn_law_cell.kp (bi_law_cell T) tk (ja_cons (je_var (pv 0)) (ja_cons je_int ja_nil)) rfl (aLen_cons (aLen_cons aLen_nil))) je_int)) sc_law.nd rfl (Or.inl rfl))
  (jb_cons (js_setLc (i := 4) rfl sc_law.nd rfl rfl (sw_true rfl rfl rfl (by decide +kernel)) (ji_range1 rfl T.mg_range (ja_cons (je_var (pv 3)) ja_nil)) (blkOk_by (own := [("number", 9)]) (N := ["script", "turns", "state", "count", "wishing", "waits", "held", "k", "rich", "number", "given", "dealt", "due", "served", "other"]) (sc := defScope st_law) (by decide +kernel)) (fun _ _ _ _ _ => (jg_name (pg_name (i := 9) sc_law.nd rfl (Or.inl rfl)))) (fun _ _ _ _ _ => jts_nil) (fun _ _ _ _ _ => (je_var (pv 9))) rfl (by decide))
  (jb_cons (js_setE (i := 5) (je_newD jd_empty) sc_law.nd rfl (Or.inl rfl))
  (jb_cons (js_setE (i := 6) je_int sc_law.nd rfl (Or.inl rfl))
  (jb_cons (js_for (passes_of rfl) rfl (ji_range1 rfl T.mg_range (ja_cons (je_callB (dc_max2 rfl) rfl T.mg_max (by decide +kernel) (ja_cons je_int (ja_cons (je_callB (dc_min2 rfl) rfl T.mg_min (by decide +kernel) (ja_cons je_int (ja_cons (je_bin do_mul je_int (je_callB dc_len rfl T.mg_len (by decide +kernel) (ja_cons (je_var (pv 0)) ja_nil))) ja_nil))) ja_nil))) ja_nil)) (jg_name (pg_name (i := 7) sc_law.nd rfl (Or.inl rfl)))
  (jb_cons (js_setE (i := 8) (je_call (ok_law_rich T) (hr.mono (by decide)) rfl T.mg_law_rich T.Fn_law_rich.kp (bi_law_rich T) tk (ja_cons (je_call (ok_law_cell T) (hr.mono (by decide)) rfl T.mg_law_cell T.Fn_law_cell.kp (bi_law_cell T) tk (ja_cons (je_var (pv 0)) (ja_cons (je_bin do_add je_int (je_bin do_div (je_var (pv 7)) je_int)) ja_nil)) rfl (aLen_cons (aLen_cons aLen_nil))) (ja_cons (je_var (pv 7)) ja_nil)) rfl (aLen_cons (aLen_cons aLen_nil))) sc_law.nd rfl (Or.inr rfl))
  (jb_cons (js_if (jt_cmp (do_eq hr.units) (je_bin do_mod (je_bin do_div (je_var (pv 8)) je_int) je_int) je_int (nomark _))
  (jb_one (js_setE (i := 4) (je_call (ok_law_wishing T) (hr.mono (by decide)) rfl T.mg_law_wishing T.Fn_law_wishing.kp (bi_law_wishing T) tk (ja_cons (je_bin do_div (je_var (pv 8)) je_int) (ja_cons (je_var (pv 4)) (ja_cons (je_var (pv 3)) ja_nil))) rfl (aLen_cons (aLen_cons (aLen_cons aLen_nil)))) sc_law.nd rfl (Or.inl rfl)))
  jb_nil)
  (jb_cons (js_if (jt_cmp (do_eq hr.units) (je_bin do_mod (je_bin do_div (je_var (pv 8)) je_int) je_int) je_int (nomark _))
  (jb_cons (js_setE (i := 9) (je_bin do_mod (je_bin do_div (je_var (pv 8)) je_int) (je_var (pv 3))) sc_law.nd rfl (Or.inr rfl))
  (jb_cons (js_expr (je_meth (je_var (pv 1)) T.cl_Turns (me_Turns_leave T) (ok_Turns_leave T) (hr.mono (by decide)) (bi_Turns_leave T) (ja_cons (je_var (pv 9)) ja_nil) (aLen1 (aLen_cons aLen_nil))))
  (jb_cons (js_expr (je_call (ok_law_turn_leave T) (hr.mono (by decide)) rfl T.mg_law_turn_leave T.Fn_law_turn_leave.kp (bi_law_turn_leave T) tk (ja_cons (je_var (pv 2)) (ja_cons (je_var (pv 9)) ja_nil)) rfl (aLen_cons (aLen_cons aLen_nil))))
  (jb_one (js_setLc (i := 4) rfl sc_law.nd rfl rfl (sw_true rfl rfl rfl (by decide +kernel)) (ji_list (je_var (pv 4))) (blkOk_by (own := [("other", 14)]) (N := ["script", "turns", "state", "count", "wishing", "waits", "held", "k", "rich", "number", "given", "dealt", "due", "served", "other"]) (sc := defScope st_law) (by decide +kernel)) (fun _ _ _ _ _ => (jg_name (pg_name (i := 14) sc_law.nd rfl (Or.inl rfl)))) (fun _ _ _ _ _ => jts_one (jt_cmp (do_ne hr.units) (je_var (pv 14)) (je_var (pv 9)) (nomark _))) (fun _ _ _ _ _ => (je_var (pv 14))) rfl (by decide))))))
  jb_nil)
  (jb_cons (js_setE (i := 10) (je_dct (jd_dictP rfl rfl T.mg_dict (by decide +kernel) (ja_cons (je_lst (jl_lc rfl sc_law.nd (ji_range1 rfl T.mg_range (ja_cons (je_var (pv 3)) ja_nil)) (blkOk_by (own := [("number", 9)]) (N := ["script", "turns", "state", "count", "wishing", "waits", "held", "k", "rich", "number", "given", "dealt", "due", "served", "other"]) (sc := defScope st_law) (by decide +kernel)) (fun _ _ _ _ _ => (jg_name (pg_name (i := 9) sc_law.nd rfl (Or.inl rfl)))) (fun _ _ _ _ _ => jts_nil) (fun _ _ _ _ _ => (je_tup (ja_cons (je_var (pv 9)) (ja_cons (je_bin do_mod (je_bin do_div (je_var (pv 8)) (je_bin do_add je_int (je_var (pv 9)))) je_int) ja_nil)))) rfl (by decide))) ja_nil))) sc_law.nd rfl (Or.inl rfl))
  (jb_cons (js_setE (i := 11) (je_meth (je_var (pv 1)) T.cl_Turns (me_Turns_step T) (ok_Turns_step T) (hr.mono (by decide)) (bi_Turns_step T) (ja_cons (je_lst (jl_callTy dc_list rfl T.mg_list (by decide +kernel) (ja_cons (je_var (pv 4)) ja_nil))) (ja_cons (je_dct (jd_dictD rfl T.mg_dict (by decide +kernel) (ja_cons (je_var (pv 10)) ja_nil))) ja_nil)) (aLen1 (aLen_cons (aLen_cons aLen_nil)))) sc_law.nd rfl (Or.inl rfl))
  (jb_cons (js_setE (i := 12) (je_call (ok_law_turn_step T) (hr.mono (by decide)) rfl T.mg_law_turn_step T.Fn_law_turn_step.kp (bi_law_turn_step T) tk (ja_cons (je_var (pv 2)) (ja_cons (je_var (pv 4)) (ja_cons (je_var (pv 10)) ja_nil))) rfl (aLen_cons (aLen_cons (aLen_cons aLen_nil)))) sc_law.nd rfl (Or.inl rfl))
  (jb_cons (js_if (jt_bo (jw_or (jt_cmp (do_ne hr.units) (je_cmp do_isN (je_var (pv 12)) je_non (nomark _)) (je_cmp do_isN (je_var (pv 11)) je_non (nomark _)) (nomark _)) (jw_or1 (jt_bo (jw_and (jt_cmp do_notN (je_var (pv 12)) je_non (nomark _)) (jw_and1 (jt_not (jt_tru (je_callB dc_isi rfl T.mg_isinstance (by decide +kernel) (ja_cons (je_var (pv 11)) (ja_cons (je_c (pe_bltn (v := .ty "int") rfl T.mg_int (by decide +kernel) rfl) fun _ _ => .ty _) ja_nil)))))))))))
  (jb_one (js_ret je_bl))
  jb_nil)
  (jb_cons (js_if (jt_bo (jw_or (jt_not (jt_tru (je_callB dc_isi rfl T.mg_isinstance (by decide +kernel) (ja_cons (je_meth0 (je_var (pv 1)) T.cl_Turns (me_Turns_served T) (ok_Turns_served T) (hr.mono (by decide)) (bi_Turns_served T)) (ja_cons (je_c (pe_bltn (v := .ty "list") rfl T.mg_list (by decide +kernel) rfl) fun _ _ => .ty _) ja_nil))))) (jw_or (jt_cmp (do_ne hr.units) (je_var (pv 11)) (je_var (pv 12)) (nomark _)) (jw_or1 (jt_cmp (do_ne hr.units) (je_meth0 (je_var (pv 1)) T.cl_Turns (me_Turns_served T) (ok_Turns_served T) (hr.mono (by decide)) (bi_Turns_served T)) (je_call (ok_law_served T) (hr.mono (by decide)) rfl T.mg_law_served T.Fn_law_served.kp (bi_law_served T) tk (ja_cons (je_var (pv 2)) ja_nil) rfl (aLen_cons aLen_nil)) (nomark _))))))
  (jb_one (js_ret je_bl))
  jb_nil)
  (jb_cons (js_setE (i := 6) (je_if (jt_cmp do_notN (je_var (pv 11)) je_non (nomark _)) je_int (je_bin do_add (je_var (pv 6)) je_int)) sc_law.nd rfl (Or.inl rfl))
  (jb_cons (js_setE (i := 13) (je_meth0 (je_var (pv 1)) T.cl_Turns (me_Turns_served T) (ok_Turns_served T) (hr.mono (by decide)) (bi_Turns_served T)) sc_law.nd rfl (Or.inl rfl))
  (jb_cons (js_if (jt_bo (jw_or (jt_cmp do_gt (je_callB dc_len rfl T.mg_len (by decide +kernel) (ja_cons (je_var (pv 13)) ja_nil)) je_int (nomark _)) (jw_or1 (jt_bo (jw_and (jt_cmp do_gt (je_callB dc_len rfl T.mg_len (by decide +kernel) (ja_cons (je_var (pv 13)) ja_nil)) je_int (nomark _)) (jw_and1 (jt_cmp do_gt (je_var (pv 6)) je_int (nomark _))))))))
  (jb_one (js_ret je_bl))
  jb_nil)
  (jb_one (js_for (passes_of rfl) rfl (ji_range1 rfl T.mg_range (ja_cons (je_var (pv 3)) ja_nil)) (jg_name (pg_name (i := 9) sc_law.nd rfl (Or.inr rfl)))
  (jb_cons (js_dput (hu_of hr) (je_var (pv 5)) (je_var (pv 9)) (je_if (jt_bo (jw_or (jt_cmp do_notIn (je_var (pv 9)) (je_var (pv 4)) rfl) (jw_or1 (jt_cmp (do_eq hr.units) (je_var (pv 9)) (je_var (pv 11)) (nomark _))))) je_int (je_bin do_add (je_get2 (hu_of hr) (je_var (pv 5)) (je_var (pv 9)) je_int ⟨rfl, rfl, rfl, rfl⟩) je_int)) rfl)
  (jb_one (js_if (jt_cmp do_gt (je_dget (hu_of hr) (je_var (pv 5)) (je_var (pv 9)) (fun _ _ => rfl)) (je_bin do_mul je_int (je_var (pv 3))) (nomark _))
  (jb_one (js_ret je_bl))
  jb_nil)))))))))))))))))
  (jb_one (js_ret je_bl))))))))))
end
end Lw


namespace Lw
open PySem L2 DL
variable {c : Addr}
theorem law_cell_eq (ns : List Int) (k : Int) (h : DH) (hk : 0 ≤ k) : ∃ v : Int, m_law_cell c [.fz (ns.map D.int), .int k] h = .ok (.int v) h := by
  by_cases hl : k < (ns.length : Int)
  · have e : atI (ns.map D.int) k = some (.int (ns[k.toNat]'(by omega))) := by
      have := atI_map D.int ns k.toNat (by omega)
      rw [show ((k.toNat : Nat) : Int) = k by omega] at this
      exact this
    refine ⟨ns[k.toNat]'(by omega), gc_pure0 rfl ?_⟩
    simp [mDef, b_law_cell, hl, e]
  · refine ⟨0, gc_pure0 rfl ?_⟩
    simp [mDef, b_law_cell, hl]
theorem law_rich_eq (x k : Int) (h : DH) (hk : 0 ≤ k) (hk2 : k < 1000) : ∃ v : Int, m_law_rich c [.int x, .int k] h = .ok (.int v) h := by
  have p : gPow 10 18 = some (.int 1000000000000000000) := by rw [gPow, if_pos (by decide)]; rfl
  by_cases hl : (1000000000000000000 : Int) ≤ x
  · refine ⟨x, gc_pure0 rfl ?_⟩
    simp [mDef, b_law_rich, hl, p]
  · have m1 : gMul x 48271 = some (.int (x * 48271)) := gMul_ap (.inr (by decide))
    have m2 : gMul k 69621 = some (.int (k * 69621)) := gMul_ap (.inr (by decide))
    have m3 : ∀ y : Int, gMod y 2147483647 = some (.int (y % 2147483647)) := fun y => gMod_ap (by decide)
    have m4 : ∀ y : Int, gMod y 2147483629 = some (.int (y % 2147483629)) := fun y => gMod_ap (by decide)
    have m5 : ∀ y : Int, gMul y 2147483629 = some (.int (y * 2147483629)) := fun y => gMul_ap (.inr (by decide))
    have m6 : ∀ y : Int, gMul y 16807 = some (.int (y * 16807)) := fun y => gMul_ap (.inr (by decide))
    refine ⟨(x * 48271 + k * 69621 + 11) % 2147483647 * 2147483629 + ((x * 48271 + k * 69621 + 11) % 2147483647 * 16807 + x) % 2147483629, gc_pure0 rfl ?_⟩
    simp [mDef, b_law_rich, hl, p, m1, m2, m3, m4, m5, m6]
def gtO (last : Option Int) (n : Int) : Bool := match last with | none => true | some l => decide (l < n)
def nextOf (ns : List Int) (last : Option Int) : Option Int :=
  if ns.filter (gtO last) = [] then (if ns = [] then none else some (minI ns)) else some (minI (ns.filter (gtO last)))
theorem cMin_ints {b : List Int} (hb : b ≠ []) (h : DH) : cMin [.lst (b.map D.int)] h = some (.int (minI b)) := by simp [cMin, hb]
theorem next_of_eq (ns : List Int) (last : Option Int) (h : DH) (hl : ns.length ≤ 100) : m_next_of c [.lst (ns.map D.int), encO last] h = .ok (encO (nextOf ns last)) h := by
  refine gc_pure0 (by simp) ?_
  have e : lcL (fun _ => true) (.nm 3) (tOr' (tBl (eBin dIsN (eVar 1) (eC .non))) (tBl (eBin (fI gGt) (eVar 3) (eVar 1)))) (eVar 3) [some (.lst (ns.map D.int)), some (encO last), none, none] (ns.map D.int) [] h = .ok ((ns.filter (gtO last)).map D.int) h := by
    refine lcL_ints (gtO last) D.int rfl (by rw [size24]; omega) (fun n hn => ?_) (fun n hn _ => by simp)
    cases last <;> simp [gtO]
  by_cases hn : ns = []
  · subst hn
    simp [mDef, b_next_of, lcL, nextOf]
  have q : ∀ b : List Int, lcL (fun _ => true) (.nm 3) (tOr' (tBl (eBin dIsN (eVar 1) (eC .non))) (tBl (eBin (fI gGt) (eVar 3) (eVar 1)))) (eVar 3) [some (.lst (ns.map D.int)), some (encO last), none, none] (ns.map D.int) [] h = .ok (b.map D.int) h →
      (mDef 4 (b_next_of c)) [.lst (ns.map D.int), encO last] h = .ok (encO (if b = [] then (if ns = [] then none else some (minI ns)) else some (minI b))) h := by
    intro b e
    by_cases hb : b = []
    · simp [mDef, b_next_of, e, hb, hn, cMin_ints hn]
    · simp [mDef, b_next_of, e, hn, hb, cMin_ints hb]
  exact q _ e
/-! given -/
def kG (dom : List Int) (g : Int → Int) : List (Key × D) := dom.map fun n => (Sum.inl n, D.int (g n))
def encG (dom : List Int) (g : Int → Int) : D := .dct ((kG dom g).map (·.1)) ((kG dom g).map (·.2))
theorem lookG {dom : List Int} {g : Int → Int} {n : Int} (h : n ∈ dom) : lookK (Sum.inl n) (kG dom g) = some (.int (g n)) := by
  induction dom with
  | nil => cases h
  | cons a l ih =>
    simp only [kG, List.map_cons, lookK, List.find?_cons]
    by_cases e : a = n
    · subst e; simp
    · have : (Sum.inl a : Key) ≠ Sum.inl n := fun z => e (Sum.inl.inj z)
      simp only [this, decide_false]
      rcases List.mem_cons.mp h with z | z
      · exact absurd z.symm e
      · exact ih z
@[simp] theorem dctG (dom : List Int) (g : Int → Int) (h : DH) : dctD h (encG dom g) = some (kG dom g) := dctD_maps h _
def bestP (g : Int → Int) (ns : List Int) : List Int := ((sortP ((ns.filter fun n => decide (0 < g n)).map fun n => (-(g n), n))).take 2).map (·.2)
theorem allD_pairs (ps : List (Int × Int)) : allD pairD (ps.map dPair) = some ps := by
  induction ps with
  | nil => rfl
  | cons a l ih => simp [allD, pairD, dPair, ih]
theorem best_eq (dom ns : List Int) (g : Int → Int) (h : DH) (hl : ns.length ≤ 100) (hd : ∀ n ∈ ns, n ∈ dom) : m_best c [encG dom g, .lst (ns.map D.int)] h = .ok (.lst ((bestP g ns).map D.int)) h := by
  refine gc_pure0 (by simp [D.noRef]) ?_
  have e : lcL (fun _ => true) (.nm 3) (tBl (eBin (fI gGt) (eGet2 (eVar 0) (eVar 3) (eC (.int 0))) (eC (.int 0)))) (eTup (aCons (eNeg (eBin dGet (eVar 0) (eVar 3))) (aCons (eVar 3) (aNil)))) [some (encG dom g), some (.lst (ns.map D.int)), none, none, none] (ns.map D.int) [] h =
      .ok ((ns.filter fun n => decide (0 < g n)).map fun n => dPair (-(g n), n)) h := by
    refine lcL_ints (fun n => decide (0 < g n)) (fun n => dPair (-(g n), n)) rfl (by rw [size24]; omega) (fun n hn => ?_) (fun n hn _ => ?_)
    · simp [lookG (hd n hn)]
    · simp [dGet, lookG (hd n hn), dPair, size24]
  have e2 : ((ns.filter fun n => decide (0 < g n)).map fun n => dPair (-(g n), n)) = ((ns.filter fun n => decide (0 < g n)).map fun n => (-(g n), n)).map dPair := by simp
  rw [e2] at e
  unfold bestP
  generalize ((ns.filter fun n => decide (0 < g n)).map fun n => (-(g n), n)) = ps at e ⊢
  have e3 : ∀ qs : List (Int × Int), qs.length ≤ 2 → ∀ ρ5 : D, ∀ ρ0 ρ1 ρ2 : Option D, lcL (fun _ => true) (.tp [(.nm 4), (.nm 3)]) mYes (eVar 3) [ρ0, ρ1, ρ2, none, none] (qs.map dPair) [] h = .ok ((qs.map (·.2)).map D.int) h := by
    intro qs hq _ ρ0 ρ1 ρ2
    have := lcL_pure (chk := fun _ => true) (t := .tp [(.nm 4), (.nm 3)]) (mt := mYes) (me := eVar 3) (ρ := [ρ0, ρ1, ρ2, none, none]) (h := h) dPair (fun _ => true) (fun p => D.int p.2) rfl qs [] (fun p hp => ⟨[ρ0, ρ1, ρ2, some (.int p.2), some (.int p.1)], by simp [dPair], by simp, fun _ => by simp⟩) (by rw [size24]; simp; omega)
    rw [List.map_map]
    rw [show qs.filter (fun _ => true) = qs from List.filter_eq_self.mpr fun _ _ => rfl, List.nil_append] at this
    exact this
  have cs : ∀ x : List (Int × Int), cSortedP [.lst (x.map dPair)] h = some ((sortP x).map dPair) := fun x => by simp [cSortedP, allD_pairs]
  have ct : ∀ x : List (Int × Int), cutD (x.map dPair) none (some 2) = (x.take 2).map dPair := fun x => by
    have := cut_to (x.map dPair) 2
    simpa using this
  simp [mDef, b_best, e, cs, ct, e3 ((sortP ps).take 2) (by simp; omega) .non, -List.map_take, -List.map_map]
end Lw


namespace Lw
open PySem L2 DL
variable {c : Addr}
@[simp] theorem ne_holder_last : ((Str.ofString "holder") = Str.ofString "last") = False := eq_false (by decide +kernel)
@[simp] theorem nb_holder_last : ((Str.ofString "holder") == Str.ofString "last") = false := by decide +kernel
@[simp] theorem ne_holder_left : ((Str.ofString "holder") = Str.ofString "left") = False := eq_false (by decide +kernel)
@[simp] theorem nb_holder_left : ((Str.ofString "holder") == Str.ofString "left") = false := by decide +kernel
@[simp] theorem ne_holder_rewards : ((Str.ofString "holder") = Str.ofString "rewards") = False := eq_false (by decide +kernel)
@[simp] theorem nb_holder_rewards : ((Str.ofString "holder") == Str.ofString "rewards") = false := by decide +kernel
@[simp] theorem ne_last_holder : ((Str.ofString "last") = Str.ofString "holder") = False := eq_false (by decide +kernel)
@[simp] theorem nb_last_holder : ((Str.ofString "last") == Str.ofString "holder") = false := by decide +kernel
@[simp] theorem ne_last_left : ((Str.ofString "last") = Str.ofString "left") = False := eq_false (by decide +kernel)
@[simp] theorem nb_last_left : ((Str.ofString "last") == Str.ofString "left") = false := by decide +kernel
@[simp] theorem ne_last_rewards : ((Str.ofString "last") = Str.ofString "rewards") = False := eq_false (by decide +kernel)
@[simp] theorem nb_last_rewards : ((Str.ofString "last") == Str.ofString "rewards") = false := by decide +kernel
@[simp] theorem ne_left_holder : ((Str.ofString "left") = Str.ofString "holder") = False := eq_false (by decide +kernel)
@[simp] theorem nb_left_holder : ((Str.ofString "left") == Str.ofString "holder") = false := by decide +kernel
@[simp] theorem ne_left_last : ((Str.ofString "left") = Str.ofString "last") = False := eq_false (by decide +kernel)
@[simp] theorem nb_left_last : ((Str.ofString "left") == Str.ofString "last") = false := by decide +kernel
@[simp] theorem ne_left_rewards : ((Str.ofString "left") = Str.ofString "rewards") = False := eq_false (by decide +kernel)
@[simp] theorem nb_left_rewards : ((Str.ofString "left") == Str.ofString "rewards") = false := by decide +kernel
@[simp] theorem ne_rewards_holder : ((Str.ofString "rewards") = Str.ofString "holder") = False := eq_false (by decide +kernel)
@[simp] theorem nb_rewards_holder : ((Str.ofString "rewards") == Str.ofString "holder") = false := by decide +kernel
@[simp] theorem ne_rewards_last : ((Str.ofString "rewards") = Str.ofString "last") = False := eq_false (by decide +kernel)
@[simp] theorem nb_rewards_last : ((Str.ofString "rewards") == Str.ofString "last") = false := by decide +kernel
@[simp] theorem ne_rewards_left : ((Str.ofString "rewards") = Str.ofString "left") = False := eq_false (by decide +kernel)
@[simp] theorem nb_rewards_left : ((Str.ofString "rewards") == Str.ofString "left") = false := by decide +kernel
structure TS where
  holder : Option Int
  last : Option Int
  left : Int
  rew : List Int
def turnsCell (c : Addr) (s : TS) : Cell := .ins c [("holder", encO s.holder), ("last", encO s.last), ("left", .int s.left), ("rewards", .lst (s.rew.map D.int))]
def stateCell (s : TS) : Cell := .dct [(.inr "holder", encO s.holder), (.inr "last", encO s.last), (.inr "left", .int s.left), (.inr "rewards", .lst (s.rew.map D.int))]
section
variable (s : TS) (x y z : Cell) (h : DH) (d : D)
@[simp] theorem fT1 : fldD (turnsCell c s :: h) c "holder" (.ref 0) = some (encO s.holder) := by simp [fldD, turnsCell, List.lookup]
@[simp] theorem fT2 : fldD (turnsCell c s :: h) c "last" (.ref 0) = some (encO s.last) := by simp [fldD, turnsCell, List.lookup]
@[simp] theorem fT3 : fldD (turnsCell c s :: h) c "left" (.ref 0) = some (.int s.left) := by simp [fldD, turnsCell, List.lookup]
@[simp] theorem fT4 : fldD (turnsCell c s :: h) c "rewards" (.ref 0) = some (.lst (s.rew.map D.int)) := by simp [fldD, turnsCell, List.lookup]
@[simp] theorem pT1 (o : Option Int) : setFld (turnsCell c s :: h) c "holder" (encO o) (.ref 0) = some (turnsCell c { s with holder := o } :: h) := by simp [setFld, turnsCell, putFD]
@[simp] theorem pT1n : setFld (turnsCell c s :: h) c "holder" .non (.ref 0) = some (turnsCell c { s with holder := none } :: h) := by simp [setFld, turnsCell, putFD]
@[simp] theorem pT1i (i : Int) : setFld (turnsCell c s :: h) c "holder" (.int i) (.ref 0) = some (turnsCell c { s with holder := some i } :: h) := by simp [setFld, turnsCell, putFD]
@[simp] theorem pT2i (i : Int) : setFld (turnsCell c s :: h) c "last" (.int i) (.ref 0) = some (turnsCell c { s with last := some i } :: h) := by simp [setFld, turnsCell, putFD]
@[simp] theorem pT2 (o : Option Int) : setFld (turnsCell c s :: h) c "last" (encO o) (.ref 0) = some (turnsCell c { s with last := o } :: h) := by simp [setFld, turnsCell, putFD]
@[simp] theorem pT3 (i : Int) : setFld (turnsCell c s :: h) c "left" (.int i) (.ref 0) = some (turnsCell c { s with left := i } :: h) := by simp [setFld, turnsCell, putFD]
@[simp] theorem pT4 (l : List Int) : setFld (turnsCell c s :: h) c "rewards" (.lst (l.map D.int)) (.ref 0) = some (turnsCell c { s with rew := l } :: h) := by simp [setFld, turnsCell, putFD]
@[simp] theorem fS1 : dGet (.ref 1) (.str "holder") (x :: stateCell s :: h) = some (encO s.holder) := by simp [dGet, stateCell, lookK]
@[simp] theorem fS2 : dGet (.ref 1) (.str "last") (x :: stateCell s :: h) = some (encO s.last) := by simp [dGet, stateCell, lookK]
@[simp] theorem fS3 : dGet (.ref 1) (.str "left") (x :: stateCell s :: h) = some (.int s.left) := by simp [dGet, stateCell, lookK]
@[simp] theorem fS4 : dGet (.ref 1) (.str "rewards") (x :: stateCell s :: h) = some (.lst (s.rew.map D.int)) := by simp [dGet, stateCell, lookK]
@[simp] theorem pS1 (o : Option Int) : setDct (x :: stateCell s :: h) (.str "holder") (encO o) (.ref 1) = some (x :: stateCell { s with holder := o } :: h) := by simp [setDct, stateCell, putD, lookK, keyD, size24]
@[simp] theorem pS1n : setDct (x :: stateCell s :: h) (.str "holder") .non (.ref 1) = some (x :: stateCell { s with holder := none } :: h) := by simp [setDct, stateCell, putD, lookK, keyD, size24]
@[simp] theorem pS1i (i : Int) : setDct (x :: stateCell s :: h) (.str "holder") (.int i) (.ref 1) = some (x :: stateCell { s with holder := some i } :: h) := by simp [setDct, stateCell, putD, lookK, keyD, size24]
@[simp] theorem pS2i (i : Int) : setDct (x :: stateCell s :: h) (.str "last") (.int i) (.ref 1) = some (x :: stateCell { s with last := some i } :: h) := by simp [setDct, stateCell, putD, lookK, keyD, size24]
@[simp] theorem pS2 (o : Option Int) : setDct (x :: stateCell s :: h) (.str "last") (encO o) (.ref 1) = some (x :: stateCell { s with last := o } :: h) := by simp [setDct, stateCell, putD, lookK, keyD, size24]
@[simp] theorem pS3 (i : Int) : setDct (x :: stateCell s :: h) (.str "left") (.int i) (.ref 1) = some (x :: stateCell { s with left := i } :: h) := by simp [setDct, stateCell, putD, lookK, keyD, size24]
@[simp] theorem pS4 (l : List Int) : setDct (x :: stateCell s :: h) (.str "rewards") (.lst (l.map D.int)) (.ref 1) = some (x :: stateCell { s with rew := l } :: h) := by simp [setDct, stateCell, putD, lookK, keyD, size24]
end
@[simp] theorem dNotN_encO (o : Option Int) (h : DH) : dNotN (encO o) .non h = some (.bl o.isSome) := by cases o <;> rfl
@[simp] theorem dIsN_encO (o : Option Int) (h : DH) : dIsN (encO o) .non h = some (.bl o.isNone) := by cases o <;> rfl
@[simp] theorem eqD_int_encO (n : Int) (o : Option Int) (h : DH) : eqD h (.int n) (encO o) = some (decide (some n = o)) := by cases o <;> simp
@[simp] theorem eqD_encO_int (n : Int) (o : Option Int) (h : DH) : eqD h (encO o) (.int n) = some (decide (o = some n)) := by cases o <;> simp
@[simp] theorem eqD_encO_encO (p o : Option Int) (h : DH) : eqD h (encO p) (encO o) = some (decide (p = o)) := by cases o <;> cases p <;> simp
def leaveS (s : TS) (n : Int) : TS := ⟨if s.holder = some n then none else s.holder, s.last, if s.holder = some n then 0 else s.left, s.rew.filter fun m => decide (m ≠ n)⟩
theorem Turns_leave_eq (s : TS) (n : Int) (h : DH) (hr : s.rew.length ≤ 100) : m_Turns_leave c [.ref 0, .int n] (turnsCell c s :: h) = .ok .non (turnsCell c (leaveS s n) :: h) := by
  refine gc_len rfl ?_ rfl
  have e : ∀ (t : TS) (a : Option D), t.rew = s.rew → lcL (fun _ => true) (.nm 2) (tBl (eBin dNe (eVar 2) (eVar 1))) (eVar 2) [a, some (.int n), none] (s.rew.map D.int) [] (turnsCell c t :: h) = .ok ((s.rew.filter fun m => decide (m ≠ n)).map D.int) (turnsCell c t :: h) := by
    intro t a ht
    exact lcL_ints (fun m => decide (m ≠ n)) D.int rfl (by rw [size24]; omega) (fun m hm => by simp) (fun m hm _ => by simp)
  by_cases q : s.holder = some n
  · simp [mDef, b_Turns_leave, q, e, leaveS]
  · simp [mDef, b_Turns_leave, q, e, leaveS]
theorem law_turn_leave_eq (s : TS) (n : Int) (x : Cell) (h : DH) (hr : s.rew.length ≤ 100) : m_law_turn_leave c [.ref 1, .int n] (x :: stateCell s :: h) = .ok .non (x :: stateCell (leaveS s n) :: h) := by
  refine gc_len rfl ?_ rfl
  have e : ∀ (t : TS) (a : Option D), t.rew = s.rew → lcL (fun _ => true) (.nm 2) (tBl (eBin dNe (eVar 2) (eVar 1))) (eVar 2) [a, some (.int n), none] (s.rew.map D.int) [] (x :: stateCell t :: h) = .ok ((s.rew.filter fun m => decide (m ≠ n)).map D.int) (x :: stateCell t :: h) := by
    intro t a ht
    exact lcL_ints (fun m => decide (m ≠ n)) D.int rfl (by rw [size24]; omega) (fun m hm => by simp) (fun m hm _ => by simp)
  by_cases q : s.holder = some n
  · simp [mDef, b_law_turn_leave, q, e, leaveS]
  · simp [mDef, b_law_turn_leave, q, e, leaveS]
end Lw


namespace Lw
open PySem L2 DL
variable {c : Addr}
/-! served -/
def servedS (s : TS) : List Int := sortI (s.rew ++ s.holder.toList)
theorem sortI_comm (a b : List Int) : sortI (a ++ b) = sortI (b ++ a) := sortI_eq ((sortI_perm _).trans List.perm_append_comm) (sortI_sorted _)
theorem cSorted_ints (h : DH) (ns : List Int) : cSorted [.lst (ns.map D.int)] h = some ((sortI ns).map D.int) := by simp [cSorted]
theorem cSorted_ref (h : DH) (n : Nat) (ns : List Int) (e : h[n]? = some (.lst (ns.map D.int))) : cSorted [.ref n] h = some ((sortI ns).map D.int) := by simp [cSorted, e]
theorem Turns_served_eq (s : TS) (h : DH) (hr : s.rew.length ≤ 100) : m_Turns_served c [.ref 0] (turnsCell c s :: h) = .ok (.lst ((servedS s).map D.int)) (turnsCell c s :: h) := by
  rcases ho : s.holder with _ | x
  · refine gc_pure (t := [.lst ((s.rew).map D.int)]) (by simp [D.noRef]) ?_
    have e1 := cSorted_ref (turnsCell c s :: (h ++ [.lst (s.rew.map D.int)])) (h.length + 1) s.rew (by simp)
    simp [mDef, b_Turns_served, ho, servedS, e1]
  · refine gc_pure (t := [.lst ((s.rew ++ [x]).map D.int)]) (by simp [D.noRef]) ?_
    have e1 := cSorted_ref (turnsCell c s :: (h ++ [.lst ((s.rew ++ [x]).map D.int)])) (h.length + 1) (s.rew ++ [x]) (by simp)
    have e2 : fAppend (.ref (h.length + 1)) [.int x] (turnsCell c s :: (h ++ [.lst (s.rew.map D.int)])) = some (.non, turnsCell c s :: (h ++ [.lst ((s.rew ++ [x]).map D.int)])) := by
      have : ¬ 16777216 ≤ s.rew.length := by omega
      simp [fAppend, size24]; omega
    simp only [List.map_append, List.map_cons, List.map_nil] at e1 e2 ⊢
    simp [mDef, b_Turns_served, ho, servedS, e1, e2]
theorem law_served_eq (s : TS) (x : Cell) (h : DH) (hr : s.rew.length ≤ 100) : m_law_served c [.ref 1] (x :: stateCell s :: h) = .ok (.lst ((servedS s).map D.int)) (x :: stateCell s :: h) := by
  have cs := fun l => cSorted_ints (x :: stateCell s :: h) l
  rcases ho : s.holder with _ | y
  · refine gc_pure0 (by simp [D.noRef]) ?_
    have l2 : s.rew.length ≤ 16777216 := by omega
    simp [mDef, b_law_served, ho, servedS, cs, dCatL, size24, l2]
  · refine gc_pure0 (by simp [D.noRef]) ?_
    have := cs ([y] ++ s.rew)
    rw [sortI_comm] at this
    simp only [List.map_append, List.map_cons, List.map_nil, List.cons_append, List.nil_append] at this
    have l2 : 1 + s.rew.length ≤ 16777216 := by omega
    simp [mDef, b_law_served, ho, servedS, dCatL, size24, this, l2]


/-! step -/
def stepS (s : TS) (ns : List Int) (g : Int → Int) : Option Int × TS :=
  let left1 := if 0 < s.left then s.left - 1 else s.left
  if (s.holder.isSome = true ∧ s.holder.any (fun x => decide (x ∈ ns)) = true ∧ 0 < left1) then (none, { s with left := left1 })
  else
    let h2 := nextOf ns s.last
    let r := bestP g (ns.filter fun n => decide (some n ≠ h2))
    if h2 = none then (none, ⟨none, s.last, 0, r⟩) else (h2, ⟨h2, h2, 5, r⟩)
@[simp] theorem inD_encO (x : Int) (ns : List Int) (h : DH) (o : Option Int) (ho : o = some x) : inD (encO o) (.lst (ns.map D.int)) h = some (decide (x ∈ ns)) := by subst ho; simp
theorem Turns_step_eq (s : TS) (ns dom : List Int) (g : Int → Int) (h : DH) (hl : ns.length ≤ 100) (hd : ∀ n ∈ ns, n ∈ dom) :
    m_Turns_step c [.ref 0, .lst (ns.map D.int), encG dom g] (turnsCell c s :: h) = .ok (encO (stepS s ns g).1) (turnsCell c (stepS s ns g).2 :: h) := by
  have e : ∀ (t : TS), lcL (fun _ => true) (.nm 3) (tBl (eBin dNe (eVar 3) (eFld c "holder" (eVar 0)))) (eVar 3) [some (.ref 0), some (.lst (ns.map D.int)), some (encG dom g), none] (ns.map D.int) [] (turnsCell c t :: h) = .ok ((ns.filter fun n => decide (some n ≠ t.holder)).map D.int) (turnsCell c t :: h) := by
    intro t
    exact lcL_ints (fun n => decide (some n ≠ t.holder)) D.int rfl (by rw [size24]; omega) (fun m hm => by simp) (fun m hm _ => by simp)
  have nx := fun (h : DH) => next_of_eq (c := c) ns s.last h hl
  have bs := fun (p : Int → Bool) (h : DH) => best_eq (c := c) dom (ns.filter p) g h (Nat.le_trans (List.length_filter_le _ _) hl) (fun n hn => hd n ((List.mem_filter.mp hn).1))
  refine gc_len (by simp) ?_ rfl
  unfold stepS
  generalize hh2 : nextOf ns s.last = h2 at nx ⊢
  by_cases q1 : 0 < s.left
  · rcases ho : s.holder with _ | x
    · cases h2 <;> simp [mDef, b_Turns_step, q1, ho, nx, bs, e]
    · by_cases q2 : x ∈ ns
      · by_cases q3 : 1 < s.left
        · simp [mDef, b_Turns_step, q1, ho, nx, bs, e, q2, q3]
        · cases h2 <;> simp [mDef, b_Turns_step, q1, ho, nx, bs, e, q2, q3]
      · cases h2 <;> simp [mDef, b_Turns_step, q1, ho, nx, bs, e, q2]
  · rcases ho : s.holder with _ | x
    · cases h2 <;> simp [mDef, b_Turns_step, q1, ho, nx, bs, e]
    · by_cases q2 : x ∈ ns
      · cases h2 <;> simp [mDef, b_Turns_step, q1, ho, nx, bs, e, q2]
      · cases h2 <;> simp [mDef, b_Turns_step, q1, ho, nx, bs, e, q2]
end Lw


namespace Lw
open PySem L2 DL
variable {c : Addr}
abbrev SA (l : List Int) : Prop := l.Pairwise (· < ·)
theorem minI_head {a : Int} {l : List Int} (h : SA (a :: l)) : minI (a :: l) = a := by
  have m := minI_mem (l := a :: l) (by simp)
  have le : minI (a :: l) ≤ a := minI_le List.mem_cons_self
  rcases List.mem_cons.mp m with e | e
  · exact e
  · have := (List.pairwise_cons.mp h).1 _ e; omega
theorem law_next_eq (ns : List Int) (last : Option Int) (h : DH) (hl : ns.length ≤ 100) (sa : SA ns) : m_law_next c [.lst (ns.map D.int), encO last] h = .ok (encO (nextOf ns last)) h := by
  refine gc_pure0 (by simp) ?_
  have e : lcL (fun _ => true) (.nm 3) (tOr' (tBl (eBin dIsN (eVar 1) (eC .non))) (tBl (eBin (fI gGt) (eVar 3) (eVar 1)))) (eVar 3) [some (.lst (ns.map D.int)), some (encO last), none, none] (ns.map D.int) [] h = .ok ((ns.filter (gtO last)).map D.int) h := by
    refine lcL_ints (gtO last) D.int rfl (by rw [size24]; omega) (fun n hn => ?_) (fun n hn _ => by simp)
    cases last <;> simp [gtO]
  have sb : SA (ns.filter (gtO last)) := List.Pairwise.filter _ sa
  have q : ∀ b : List Int, SA b → lcL (fun _ => true) (.nm 3) (tOr' (tBl (eBin dIsN (eVar 1) (eC .non))) (tBl (eBin (fI gGt) (eVar 3) (eVar 1)))) (eVar 3) [some (.lst (ns.map D.int)), some (encO last), none, none] (ns.map D.int) [] h = .ok (b.map D.int) h →
      (mDef 4 (b_law_next c)) [.lst (ns.map D.int), encO last] h = .ok (encO (if b = [] then (if ns = [] then none else some (minI ns)) else some (minI b))) h := by
    intro b sb e
    have at0 : ∀ (a : Int) (l : List Int), atI (D.int a :: l.map D.int) 0 = some (.int a) := fun a l => atI_map D.int (a :: l) 0 (by simp)
    rcases b with _ | ⟨b0, b⟩
    · rcases ns with _ | ⟨a, ns⟩
      · simp [mDef, b_law_next, lcL]
      · simp only [List.map_cons] at e ⊢
        simp [mDef, b_law_next, e, at0, minI_head sa]
    · simp only [List.map_cons] at e ⊢
      simp [mDef, b_law_next, e, at0, minI_head sb]
  exact q _ sb e
/-! best -/
def insB (g : Int → Int) (found : List Int) (n : Int) : List Int :=
  if 0 < g n then found.takeWhile (fun m => decide (g n ≤ g m)) ++ [n] ++ found.dropWhile (fun m => decide (g n ≤ g m)) else found
def kB (g : Int → Int) (n : Int) : Int × Int := (-(g n), n)
theorem insB_pw {g : Int → Int} {n : Int} : ∀ {found : List Int}, found.Pairwise (fun a b => leP (kB g a) (kB g b) = true) → (∀ m ∈ found, m < n) → (found.takeWhile (fun m => decide (g n ≤ g m)) ++ [n] ++ found.dropWhile (fun m => decide (g n ≤ g m))).Pairwise (fun a b => leP (kB g a) (kB g b) = true)
  | [], _, _ => by simp
  | a :: l, h, hn => by
    obtain ⟨h1, h2⟩ := List.pairwise_cons.mp h
    have ih := insB_pw (g := g) (n := n) h2 fun m hm => hn m (List.mem_cons_of_mem _ hm)
    have ha : a < n := hn a List.mem_cons_self
    by_cases c : g n ≤ g a
    · simp only [List.takeWhile_cons, List.dropWhile_cons, c, decide_true, if_true, List.cons_append]
      refine List.pairwise_cons.mpr ⟨fun m hm => ?_, ih⟩
      have : m = n ∨ m ∈ l := by
        rcases List.mem_append.mp hm with q | q
        · rcases List.mem_append.mp q with q | q
          · exact .inr ((List.takeWhile_sublist _).mem q)
          · exact .inl (by simpa using q)
        · exact .inr ((List.dropWhile_sublist _).mem q)
      rcases this with rfl | hm
      · rw [leP_iff]; simp only [kB]; omega
      · exact h1 m hm
    · simp only [List.takeWhile_cons, List.dropWhile_cons, c, decide_false, Bool.false_eq_true, if_false, List.nil_append, List.cons_append]
      refine List.pairwise_cons.mpr ⟨fun m hm => ?_, h⟩
      have : g m < g n := by
        rcases List.mem_cons.mp hm with e | e
        · rw [e]; omega
        · have := h1 m e
          rw [leP_iff] at this; simp only [kB] at this; omega
      rw [leP_iff]; simp only [kB]; omega
theorem insB_perm (g : Int → Int) (found : List Int) (n : Int) : (insB g found n).Perm (found ++ (if 0 < g n then [n] else [])) := by
  unfold insB
  by_cases q : 0 < g n
  · rw [if_pos q, if_pos q]
    have e := List.takeWhile_append_dropWhile (p := fun m => decide (g n ≤ g m)) (l := found)
    generalize found.takeWhile (fun m => decide (g n ≤ g m)) = T at e ⊢
    generalize found.dropWhile (fun m => decide (g n ≤ g m)) = U at e ⊢
    rw [← e, List.append_assoc, List.append_assoc]
    exact List.Perm.append_left T List.perm_append_comm
  · rw [if_neg q, if_neg q]; simp
theorem foldB {g : Int → Int} : ∀ (ns found : List Int), SA ns → (∀ m ∈ found, ∀ n ∈ ns, m < n) → found.Pairwise (fun a b => leP (kB g a) (kB g b) = true) →
    (ns.foldl (insB g) found).Pairwise (fun a b => leP (kB g a) (kB g b) = true) ∧ (ns.foldl (insB g) found).Perm (found ++ ns.filter fun n => decide (0 < g n))
  | [], found, _, _, h => ⟨h, by simp⟩
  | n :: ns, found, sa, hm, h => by
    obtain ⟨s1, s2⟩ := List.pairwise_cons.mp sa
    have perm := insB_perm g found n
    have pw : (insB g found n).Pairwise (fun a b => leP (kB g a) (kB g b) = true) := by
      unfold insB
      split
      · exact insB_pw h fun m hm' => hm m hm' n List.mem_cons_self
      · exact h
    have ih := foldB ns (insB g found n) s2 (fun m hm1 x hx => by
      rcases List.mem_append.mp (perm.mem_iff.mp hm1) with q | q
      · exact hm m q x (List.mem_cons_of_mem _ hx)
      · split at q
        · rw [List.mem_singleton.mp q]; exact s1 x hx
        · cases q) pw
    refine ⟨ih.1, ih.2.trans ((perm.append_right _).trans ?_)⟩
    by_cases q : 0 < g n
    · simp [q]
    · simp [q]
theorem best_fold (g : Int → Int) (ns : List Int) (sa : SA ns) : bestP g ns = (ns.foldl (insB g) []).take 2 := by
  obtain ⟨h1, h2⟩ := foldB (g := g) ns [] sa (by simp) List.Pairwise.nil
  have e : (ns.foldl (insB g) []).map (kB g) = sortP ((ns.filter fun n => decide (0 < g n)).map fun n => (-(g n), n)) :=
    sortP_eq (h2.map (kB g)) (List.pairwise_map.mpr h1)
  have f : (kB g) = fun n => (-(g n), n) := rfl
  unfold bestP
  rw [← e, ← List.map_take, List.map_map]
  have : ((fun x : Int × Int => x.2) ∘ kB g) = id := rfl
  rw [this, List.map_id]
theorem best_while (dom : List Int) (g : Int → Int) (k : Int) (x : Int) (ho : Option D) (h : DH) : ∀ (fuel : Nat) (suf pre : List Int), suf.length < fuel → (∀ n ∈ suf, n ∈ dom) →
    whileN (tAnd' (tBl (eBin (fI gLt) (eVar 5) (eCB cLen (aCons (eVar 2) (aNil))))) (tBl (eBin (fI gGe) (eGet2 (eVar 0) (eBin dIx (eVar 2) (eVar 5)) (eC (.int 0))) (eVar 4)))) (sSet 5 (eBin (fI gAdd) (eVar 5) (eC (.int 1)))) fuel
      [some (encG dom g), ho, some (.lst ((pre ++ suf).map D.int)), some (.int x), some (.int k), some (.int (pre.length : Int))] h =
    .ok .nx [some (encG dom g), ho, some (.lst ((pre ++ suf).map D.int)), some (.int x), some (.int k), some (.int ((pre.length + (suf.takeWhile fun m => decide (k ≤ g m)).length : Nat) : Int))] h
  | 0, _, _, hf, _ => absurd hf (by omega)
  | fuel + 1, [], pre, hf, hd => by
    simp [whileN]
  | fuel + 1, a :: suf, pre, hf, hd => by
    have at0 : atI ((pre ++ a :: suf).map D.int) (pre.length : Int) = some (.int a) := by
      have := atI_map D.int (pre ++ a :: suf) pre.length (by simp)
      rw [this]; simp
    have lk : lookK (Sum.inl a) (kG dom g) = some (.int (g a)) := lookG (hd a List.mem_cons_self)
    have lt : (pre.length : Int) < ((pre ++ a :: suf).length : Int) := by simp; omega
    have ih := best_while dom g k x ho h fuel suf (pre ++ [a]) (by simp at hf; omega) fun n hn => hd n (List.mem_cons_of_mem _ hn)
    rw [List.append_assoc, List.singleton_append, List.length_append, List.length_singleton] at ih
    generalize hL : pre ++ a :: suf = L at at0 lt ih ⊢
    by_cases c : k ≤ g a
    · have e1 : ((pre.length + 1 : Nat) : Int) = (pre.length : Int) + 1 := by omega
      rw [e1] at ih
      simp only [whileN]
      simp [at0, lk, lt, c, ih]
      omega
    · simp only [whileN]
      simp [at0, lk, lt, c]
theorem law_best_eq (dom ns : List Int) (g : Int → Int) (h : DH) (hl : ns.length ≤ 100) (sa : SA ns) (hd : ∀ n ∈ ns, n ∈ dom) : m_law_best c [encG dom g, .lst (ns.map D.int)] h = .ok (.lst ((bestP g ns).map D.int)) h := by
  refine gc_pure0 (by simp [D.noRef]) ?_
  have loop : ∀ (ms found : List Int) (a3 a4 a5 : Option D), found.length + ms.length ≤ 100 → (∀ n ∈ ms, n ∈ dom) → (∀ n ∈ found, n ∈ dom) →
      ∃ b3 b4 b5, forL (fun _ => true) (.nm 3) (sSeq (sSet 4 (eGet2 (eVar 0) (eVar 3) (eC (.int 0)))) (sSeq (sSet 5 (eC (.int 0))) (sSeq (whileN (tAnd' (tBl (eBin (fI gLt) (eVar 5) (eCB cLen (aCons (eVar 2) (aNil))))) (tBl (eBin (fI gGe) (eGet2 (eVar 0) (eBin dIx (eVar 2) (eVar 5)) (eC (.int 0))) (eVar 4)))) (sSet 5 (eBin (fI gAdd) (eVar 5) (eC (.int 1)))) 1000) (sIf (tBl (eBin (fI gGt) (eVar 4) (eC (.int 0)))) (sSet 2 (eLst (eBinL dCatL (eLst (eBinL dCatL (eLst (eSl dSlL (eVar 2) (oNone) (oSome (eVar 5)))) (eLst (lenOk (aCons (eVar 3) (aNil)))))) (eLst (eSl dSlL (eVar 2) (oSome (eVar 5)) (oNone)))))) (sNil)))))
        (ms.map D.int) [some (encG dom g), some (.lst (ns.map D.int)), some (.lst (found.map D.int)), a3, a4, a5] h = .ok .nx [some (encG dom g), some (.lst (ns.map D.int)), some (.lst ((ms.foldl (insB g) found).map D.int)), b3, b4, b5] h := by
    intro ms
    induction ms with
    | nil => intro found a3 a4 a5 _ _ _; exact ⟨a3, a4, a5, by simp [forL]⟩
    | cons n ms ih =>
      intro found a3 a4 a5 hl hm hf
      have w := best_while dom g (g n) n (some (.lst (ns.map D.int))) h 1000 found [] (by simp at hl; omega) hf
      have lk : lookK (Sum.inl n) (kG dom g) = some (.int (g n)) := lookG (hm n List.mem_cons_self)
      have perm := insB_perm g found n
      have len : (insB g found n).length + ms.length ≤ 100 := by
        rw [perm.length_eq]; simp at hl ⊢; split <;> simp <;> omega
      have mem : ∀ m ∈ insB g found n, m ∈ dom := fun m hm' => by
        rcases List.mem_append.mp (perm.mem_iff.mp hm') with q | q
        · exact hf m q
        · split at q
          · rw [List.mem_singleton.mp q]; exact hm n List.mem_cons_self
          · cases q
      obtain ⟨b3, b4, b5, e⟩ := ih (insB g found n) (some (.int n)) (some (.int (g n))) (some (.int ((found.takeWhile fun m => decide (g n ≤ g m)).length : Int))) len (fun m hm' => hm m (List.mem_cons_of_mem _ hm')) mem
      refine ⟨b3, b4, b5, ?_⟩
      rw [List.foldl_cons, ← e]
      simp only [List.nil_append, List.length_nil, Nat.zero_add] at w
      rw [show ((0 : Nat) : Int) = 0 from rfl] at w
      have tw := List.takeWhile_append_dropWhile (p := fun m => decide (g n ≤ g m)) (l := found)
      have ci : insB g found n = if 0 < g n then found.takeWhile (fun m => decide (g n ≤ g m)) ++ [n] ++ found.dropWhile (fun m => decide (g n ≤ g m)) else found := rfl
      generalize found.takeWhile (fun m => decide (g n ≤ g m)) = T at tw w ci ⊢
      generalize found.dropWhile (fun m => decide (g n ≤ g m)) = U at tw ci ⊢
      have c1 : cutD (found.map D.int) none (some (T.length : Int)) = T.map D.int := by rw [cut_to, ← tw, ← List.map_take, List.take_left]
      have c2 : cutD (found.map D.int) (some (T.length : Int)) none = U.map D.int := by rw [cut_from, ← tw, ← List.map_drop, List.drop_left]
      have tl : T.length + U.length ≤ 100 := by rw [← List.length_append, tw]; simp at hl; omega
      rw [ci]
      simp only [List.map_cons, forL, if_true, asgT_nm]
      by_cases q : 0 < g n
      · have l1 : T.length + 1 ≤ 16777216 := by omega
        have l2 : T.length + (1 + U.length) ≤ 16777216 := by omega
        have l3 : T.length + 1 + U.length ≤ 16777216 := by omega
        simp [lk, w, q, c1, c2, dCatL, size24, l1, l2, l3]
      · simp [lk, w, q]
  obtain ⟨b3, b4, b5, e⟩ := loop ns [] none none none (by simpa using hl) hd (by simp)
  have ct := cut_to ((ns.foldl (insB g) []).map D.int) 2
  rw [best_fold g ns sa, List.map_take]
  simp only [List.map_nil] at e
  simp at ct
  simp [mDef, b_law_best, e, ct]
end Lw


namespace Lw
open PySem L2 DL
variable {c : Addr}
theorem law_turn_step_eq (s : TS) (ns dom : List Int) (g : Int → Int) (y : Cell) (h : DH) (hl : ns.length ≤ 100) (sa : SA ns) (hd : ∀ n ∈ ns, n ∈ dom) :
    m_law_turn_step c [.ref 1, .lst (ns.map D.int), encG dom g] (y :: stateCell s :: h) = .ok (encO (stepS s ns g).1) (y :: stateCell (stepS s ns g).2 :: h) := by
  have e : ∀ (t : TS), lcL (fun _ => true) (.nm 3) (tBl (eBin dNe (eVar 3) (eBin dGet (eVar 0) (eC (.str "holder"))))) (eVar 3) [some (.ref 1), some (.lst (ns.map D.int)), some (encG dom g), none] (ns.map D.int) [] (y :: stateCell t :: h) = .ok ((ns.filter fun n => decide (some n ≠ t.holder)).map D.int) (y :: stateCell t :: h) := by
    intro t
    exact lcL_ints (fun n => decide (some n ≠ t.holder)) D.int rfl (by rw [size24]; omega) (fun m hm => by simp) (fun m hm _ => by simp)
  have nx := fun (h : DH) => law_next_eq (c := c) ns s.last h hl sa
  have bs := fun (p : Int → Bool) (h : DH) => law_best_eq (c := c) dom (ns.filter p) g h (Nat.le_trans (List.length_filter_le _ _) hl) (List.Pairwise.filter _ sa) (fun n hn => hd n (List.mem_filter.mp hn).1)
  refine gc_len (by simp) ?_ rfl
  unfold stepS
  generalize hh2 : nextOf ns s.last = h2 at nx ⊢
  by_cases q1 : 0 < s.left
  · rcases ho : s.holder with _ | x
    · cases h2 <;> simp [mDef, b_law_turn_step, q1, ho, nx, bs, e]
    · by_cases q2 : x ∈ ns
      · by_cases q3 : 1 < s.left
        · simp [mDef, b_law_turn_step, q1, ho, nx, bs, e, q2, q3]
        · cases h2 <;> simp [mDef, b_law_turn_step, q1, ho, nx, bs, e, q2, q3]
      · cases h2 <;> simp [mDef, b_law_turn_step, q1, ho, nx, bs, e, q2]
  · rcases ho : s.holder with _ | x
    · cases h2 <;> simp [mDef, b_law_turn_step, q1, ho, nx, bs, e]
    · by_cases q2 : x ∈ ns
      · cases h2 <;> simp [mDef, b_law_turn_step, q1, ho, nx, bs, e, q2]
      · cases h2 <;> simp [mDef, b_law_turn_step, q1, ho, nx, bs, e, q2]
/-! ranges, dicts -/
def rg (m : Nat) : List Int := (List.range m).map fun (i : Nat) => ((i : Nat) : Int)
theorem rg_mem {m : Nat} {n : Int} : n ∈ rg m ↔ 0 ≤ n ∧ n < m := by
  simp only [rg, List.mem_map, List.mem_range]
  constructor
  · rintro ⟨i, h, rfl⟩; omega
  · rintro ⟨h1, h2⟩; exact ⟨n.toNat, by omega, by omega⟩
theorem rg_sa (m : Nat) : SA (rg m) := by
  unfold rg SA
  rw [List.pairwise_map]
  exact List.Pairwise.imp (fun h => by omega) List.pairwise_lt_range
theorem rg_len (m : Nat) : (rg m).length = m := by simp [rg]
theorem rngD_rg (m : Nat) : rngD 0 m = (rg m).map D.int := by simp [rngD, rg]
theorem sa_nodup {l : List Int} (h : SA l) : l.Nodup := List.Pairwise.imp (fun h => by omega) h
theorem kG_len (dom : List Int) (g : Int → Int) : (kG dom g).length = dom.length := by simp [kG]
theorem lookG_no {dom : List Int} {g : Int → Int} {n : Int} (h : n ∉ dom) : lookK (Sum.inl n) (kG dom g) = none := by
  induction dom with
  | nil => rfl
  | cons a l ih =>
    simp only [kG, List.map_cons, lookK, List.find?_cons]
    have e : a ≠ n := fun z => h (by rw [z]; exact List.mem_cons_self)
    have : (Sum.inl a : Key) ≠ Sum.inl n := fun z => e (Sum.inl.inj z)
    simp only [this, decide_false]
    exact ih fun z => h (List.mem_cons_of_mem _ z)
theorem anyG {dom : List Int} {g : Int → Int} {n : Int} : ((kG dom g).any fun kv => decide (kv.1 = Sum.inl n)) = decide (n ∈ dom) := by
  induction dom with
  | nil => rfl
  | cons a l ih =>
    have : (kG (a :: l) g) = (Sum.inl a, D.int (g a)) :: kG l g := rfl
    rw [this, List.any_cons, ih]
    have : (Sum.inl a : Key) = Sum.inl n ↔ a = n := ⟨Sum.inl.inj, fun e => by rw [e]⟩
    rw [Bool.eq_iff_iff]
    simp only [Bool.or_eq_true, decide_eq_true_eq, this, List.mem_cons]
    exact ⟨fun h => h.imp Eq.symm id, fun h => h.imp Eq.symm id⟩
theorem putG_mem {dom : List Int} {g : Int → Int} {n v : Int} (h : n ∈ dom) : putD (Sum.inl n) (.int v) (kG dom g) = kG dom fun m => if m = n then v else g m := by
  unfold putD
  rw [anyG, if_pos (by simpa using h)]
  simp only [kG, List.map_map]
  refine List.map_congr_left fun m _ => ?_
  have : (Sum.inl m : Key) = Sum.inl n ↔ m = n := ⟨Sum.inl.inj, fun e => by rw [e]⟩
  simp only [Function.comp, this]
  split <;> simp [*]
theorem putG_new {dom : List Int} {g : Int → Int} {n v : Int} (h : n ∉ dom) : putD (Sum.inl n) (.int v) (kG dom g) = kG (dom ++ [n]) fun m => if m = n then v else g m := by
  unfold putD
  rw [anyG, if_neg (by simpa using h)]
  simp only [kG, List.map_append, List.map_cons, List.map_nil, if_true]
  congr 1
  refine List.map_congr_left fun m hm => ?_
  have : m ≠ n := fun z => h (z ▸ hm)
  simp [this]
theorem mergeG (g : Int → Int) : ∀ (suf pre : List Int), (pre ++ suf).Nodup → mergeD (kG pre g) (kG suf g) = kG (pre ++ suf) g
  | [], pre, _ => by simp [mergeD, kG]
  | n :: suf, pre, hn => by
    have e : pre ++ n :: suf = (pre ++ [n]) ++ suf := by simp
    have hp : n ∉ pre := fun z => by
      have := (List.nodup_append.mp hn).2.2 n z n List.mem_cons_self
      exact this rfl
    have : mergeD (kG pre g) (kG (n :: suf) g) = mergeD (putD (Sum.inl n) (.int (g n)) (kG pre g)) (kG suf g) := rfl
    rw [this, putG_new hp]
    have gg : (fun m => if m = n then g n else g m) = g := funext fun m => by split <;> simp [*]
    rw [gg, e, mergeG g suf (pre ++ [n]) (by rw [← e]; exact hn)]
theorem allPr (g : Int → Int) (dom : List Int) : allD prD (dom.map fun n => .tup [.int n, .int (g n)]) = some (kG dom g) := by
  induction dom with
  | nil => rfl
  | cons a l ih => simp [allD, prD, ih, kG]
theorem dictP_G (g : Int → Int) (dom : List Int) (h : DH) (hn : dom.Nodup) : cDictP [.lst (dom.map fun n => .tup [.int n, .int (g n)])] h = some (kG dom g) := by
  simp only [cDictP, lstD_lst, allPr, Option.map_some]
  rw [show ([] : List (Key × D)) = kG [] g from rfl, mergeG g dom [] (by simpa using hn), List.nil_append]
/-! wishing -/
theorem sa_sort {l : List Int} (hn : l.Nodup) : SA (sortI l) := by
  have h1 := sortI_sorted l
  have h2 : (sortI l).Nodup := (sortI_perm l).nodup_iff.mpr hn
  exact (h1.and h2).imp fun ⟨a, b⟩ => by omega
theorem mergeT (l : List Int) : ∀ acc : List Int, (∀ n, n ∈ (l.foldl (fun a n => if n ∈ a then a else a ++ [n]) acc) → n ∈ acc ∨ n ∈ l) ∧ (acc.Nodup → (l.foldl (fun a n => if n ∈ a then a else a ++ [n]) acc).Nodup) ∧ (l.foldl (fun a n => if n ∈ a then a else a ++ [n]) acc).length ≤ acc.length + l.length ∧
    mergeD (acc.map fun n => ((Sum.inl n : Key), D.bl true)) (l.map fun n => ((Sum.inl n : Key), D.bl true)) = (l.foldl (fun a n => if n ∈ a then a else a ++ [n]) acc).map fun n => ((Sum.inl n : Key), D.bl true) := by
  induction l with
  | nil => intro acc; exact ⟨fun n h => .inl h, id, by simp, by simp [mergeD]⟩
  | cons x l ih =>
    intro acc
    simp only [List.foldl_cons, List.map_cons]
    obtain ⟨i1, i2, i3, i4⟩ := ih (if x ∈ acc then acc else acc ++ [x])
    have put : putD (Sum.inl x) (D.bl true) (acc.map fun n => ((Sum.inl n : Key), D.bl true)) = (if x ∈ acc then acc else acc ++ [x]).map fun n => ((Sum.inl n : Key), D.bl true) := by
      unfold putD
      have an : ((acc.map fun n => ((Sum.inl n : Key), D.bl true)).any fun kv => decide (kv.1 = Sum.inl x)) = decide (x ∈ acc) := by
        rw [Bool.eq_iff_iff]; simp
      rw [an]
      by_cases q : x ∈ acc
      · simp only [q, decide_true, if_true, List.map_map]
        refine List.map_congr_left fun m _ => ?_
        simp only [Function.comp]; split <;> rfl
      · simp [q]
    refine ⟨fun n hn => ?_, fun hn => i2 ?_, ?_, ?_⟩
    · rcases i1 n hn with q | q
      · split at q
        · exact .inl q
        · rcases List.mem_append.mp q with q | q
          · exact .inl q
          · exact .inr (by rw [List.mem_singleton.mp q]; exact List.mem_cons_self)
      · exact .inr (List.mem_cons_of_mem _ q)
    · split
      · exact hn
      · exact List.nodup_append.mpr ⟨hn, by simp, fun a ha b hb => by rw [List.mem_singleton.mp hb]; intro z; subst z; contradiction⟩
    · refine Nat.le_trans i3 ?_
      split <;> simp <;> omega
    · rw [show mergeD (acc.map fun n => ((Sum.inl n : Key), D.bl true)) (((Sum.inl x : Key), D.bl true) :: l.map fun n => ((Sum.inl n : Key), D.bl true)) = mergeD (putD (Sum.inl x) (D.bl true) (acc.map fun n => ((Sum.inl n : Key), D.bl true))) (l.map fun n => ((Sum.inl n : Key), D.bl true)) from rfl, put]
      exact i4
theorem allPrT (dom : List Int) : allD prD (dom.map fun n => .tup [.int n, .bl true]) = some (dom.map fun n => ((Sum.inl n : Key), D.bl true)) := by
  induction dom with
  | nil => rfl
  | cons a l ih => simp [allD, prD, ih]
theorem mapM_inl (l : List Int) : (l.map fun n => (Sum.inl n : Key)).mapM keyI = some l := by
  induction l with
  | nil => rfl
  | cons a l ih => simp [List.mapM_cons, keyI, ih]
theorem law_wishing_eq (rich count : Int) (ns : List Int) (h : DH) (hc : 7 ≤ count ∧ count < 61) (sa : SA ns) (hb : ∀ n ∈ ns, 0 ≤ n ∧ n < count) (hl : ns.length ≤ 60) :
    ∃ ws : List Int, m_law_wishing c [.int rich, .lst (ns.map D.int), .int count] h = .ok (.lst (ws.map D.int)) h ∧ SA ws ∧ ∀ n ∈ ws, 0 ≤ n ∧ n < count := by
  have md : ∀ (x y : Int), 0 < y → gMod x y = some (.int (x % y)) := fun x y h => gMod_ap h
  have dv : ∀ (x y : Int), 0 < y → y < 1073741824 → gDiv x y = some (.int (x / y)) := fun x y h1 h2 => gDiv_ap h1 h2
  have c1 : -(4611686018427387904 : Int) ≤ count := by omega
  have c2 : count < 4611686018427387904 := by omega
  have c3 : 0 < count := by omega
  have rgl : (rg count.toNat).length ≤ sizeLine := by rw [rg_len, size24]; omega
  have rgb : ∀ n ∈ rg count.toNat, 0 ≤ n ∧ n < count := fun n hn => by have := rg_mem.mp hn; omega
  by_cases k0 : rich % 5 = 0
  · let f : Int → Bool := fun n => decide (rich / 5 % 7 ≠ n % 7)
    have e : ∀ o1, lcL (fun _ => true) (.nm 5) (tBl (eBin dNe (eBin (fI gMod) (eBin (fI gDiv) (eVar 0) (eC (.int 5))) (eC (.int 7))) (eBin (fI gMod) (eCB cInt (aCons (eVar 5) (aNil))) (eC (.int 7))))) (eVar 5) [some (.int rich), o1, some (.int count), some (.int (rich % 5)), none, none] ((rg count.toNat).map D.int) [] h = .ok (((rg count.toNat).filter f).map D.int) h := fun o1 =>
      lcL_ints f D.int rfl rgl (fun m hm => by simp [md, dv, f]) (fun m hm _ => by simp)
    refine ⟨(rg count.toNat).filter f, gc_pure0 (by simp [D.noRef]) ?_, List.Pairwise.filter _ (rg_sa _), fun n hn => rgb n (List.mem_filter.mp hn).1⟩
    simp only [k0] at e
    simp [mDef, b_law_wishing, md, k0, c1, c2, rngD_rg, e]
  by_cases k1 : rich % 5 = 1
  · let f : Int → Bool := fun n => decide (n ∉ ns) || decide (n % 2 = rich / 5 % 2)
    have e : ∀ o4, lcL (fun _ => true) (.nm 5) (tOr' (tBl (eBin dNotIn (eVar 5) (eVar 1))) (tBl (eBin dEq (eBin (fI gMod) (eVar 5) (eC (.int 2))) (eBin (fI gMod) (eBin (fI gDiv) (eVar 0) (eC (.int 5))) (eC (.int 2)))))) (eVar 5) [some (.int rich), some (.lst (ns.map D.int)), some (.int count), o4, none, none] ((rg count.toNat).map D.int) [] h = .ok (((rg count.toNat).filter f).map D.int) h := fun o4 =>
      lcL_ints f D.int rfl rgl (fun m hm => by by_cases q : m ∈ ns <;> simp [md, dv, f, q]) (fun m hm _ => by simp)
    refine ⟨(rg count.toNat).filter f, gc_pure0 (by simp [D.noRef]) ?_, List.Pairwise.filter _ (rg_sa _), fun n hn => rgb n (List.mem_filter.mp hn).1⟩
    simp [mDef, b_law_wishing, md, k1, c1, c2, rngD_rg, e]
  by_cases k2 : rich % 5 = 2
  · let f : Int → Bool := fun n => decide (n ≠ rich / 5 % count)
    have e : ∀ o0 o1 o2 o3, lcL (fun _ => true) (.nm 5) (tBl (eBin dNe (eVar 5) (eVar 4))) (eVar 5) [o0, o1, o2, o3, some (.int (rich / 5 % count)), none] (ns.map D.int) [] h = .ok ((ns.filter f).map D.int) h := fun o0 o1 o2 o3 =>
      lcL_ints f D.int rfl (by rw [size24]; omega) (fun m hm => by simp [f]) (fun m hm _ => by simp)
    refine ⟨ns.filter f, gc_pure0 (by simp [D.noRef]) ?_, List.Pairwise.filter _ sa, fun n hn => hb n (List.mem_filter.mp hn).1⟩
    simp [mDef, b_law_wishing, md, dv, k2, c1, c2, c3, e]
  · obtain ⟨i1, i2, i3, i4⟩ := mergeT (ns ++ [rich / 5 % count]) []
    have e : ∀ o0 o1 o2 o3 o4, lcL (fun _ => true) (.nm 5) mYes (eTup (aCons (eVar 5) (aCons (eC (.bl true)) (aNil)))) [o0, o1, o2, o3, o4, none] ((ns ++ [rich / 5 % count]).map D.int) [] h = .ok ((ns ++ [rich / 5 % count]).map fun n => .tup [.int n, .bl true]) h := fun o0 o1 o2 o3 o4 => by
      have := lcL_ints (i := 5) (mt := mYes) (me := (eTup (aCons (eVar 5) (aCons (eC (.bl true)) (aNil))))) (ρ := [o0, o1, o2, o3, o4, none]) (h := h) (chk := fun _ => true) (ns := ns ++ [rich / 5 % count]) (fun _ => true) (fun n => .tup [.int n, .bl true]) rfl (by rw [size24]; simp; omega) (fun m hm => by simp) (fun m hm _ => by simp [size24])
      rw [show (ns ++ [rich / 5 % count]).filter (fun _ => true) = ns ++ [rich / 5 % count] from List.filter_eq_self.mpr fun _ _ => rfl] at this
      exact this
    generalize (ns ++ [rich / 5 % count]).foldl (fun a n => if n ∈ a then a else a ++ [n]) [] = ws at i1 i2 i3 i4
    have mb : 0 ≤ rich / 5 % count ∧ rich / 5 % count < count := ⟨Int.emod_nonneg _ (by omega), Int.emod_lt_of_pos _ c3⟩
    refine ⟨sortI ws, gc_pure0 (by simp [D.noRef]) ?_, sa_sort (i2 List.nodup_nil), fun n hn => ?_⟩
    · have cd : ∀ h', cDictP [.lst ((ns ++ [rich / 5 % count]).map fun n => .tup [.int n, .bl true])] h' = some (ws.map fun n => ((Sum.inl n : Key), D.bl true)) := fun h' => by
        simp only [cDictP, lstD_lst, allPrT, Option.map_some]
        rw [show ([] : List (Key × D)) = ([] : List Int).map fun n => ((Sum.inl n : Key), D.bl true) from rfl, i4]
      have cs : ∀ h', cSortedD [.dct ((ws.map fun n => ((Sum.inl n : Key), D.bl true)).map (·.1)) ((ws.map fun n => ((Sum.inl n : Key), D.bl true)).map (·.2))] h' = some ((sortI ws).map D.int) := fun h' => by
        have wl : ws.length < 64 := by simp at i3; omega
        simp only [cSortedD, dctD_maps]
        rw [List.map_map, show ((fun x : Key × D => x.1) ∘ fun n : Int => ((Sum.inl n : Key), D.bl true)) = fun n => (Sum.inl n : Key) from rfl, mapM_inl]
        simp [wl]
      have le : ns.length + 1 ≤ 16777216 := by omega
      simp only [List.map_append, List.map_cons, List.map_nil] at e cd
      simp [mDef, b_law_wishing, md, dv, k0, k1, k2, c1, c2, c3, dCatL, size24, le, e, cd, cs, -List.map_map]
    · have hn := (sortI_perm ws).mem_iff.mp hn
      rcases i1 n hn with q | q
      · cases q
      · rcases List.mem_append.mp q with q | q
        · exact hb n q
        · rw [List.mem_singleton.mp q]; exact mb
end Lw


namespace Lw
open PySem L2 DL
variable {c : Addr}
/-! the turn's own law -/
def dist (count l n : Int) : Int := if l < n then n - l else n - l + count
theorem nextOf_none {ns : List Int} {last : Option Int} (h : nextOf ns last = none) : ns = [] := by
  unfold nextOf at h
  split at h
  · split at h
    · assumption
    · cases h
  · cases h
theorem nextOf_mem {ns : List Int} {last : Option Int} {y : Int} (h : nextOf ns last = some y) : y ∈ ns := by
  unfold nextOf at h
  split at h
  · split at h
    · cases h
    · cases h; exact minI_mem (by assumption)
  · cases h; exact (List.mem_filter.mp (minI_mem (by assumption))).1
theorem nextOf_dist {ns : List Int} {count l y n : Int} (hb : ∀ n ∈ ns, 0 ≤ n ∧ n < count) (hl : 0 ≤ l ∧ l < count) (h : nextOf ns (some l) = some y) (hn : n ∈ ns) (hne : n ≠ y) : dist count y n < dist count l n := by
  have nb := hb n hn
  have yb := hb y (nextOf_mem h)
  unfold nextOf at h
  split at h
  · rename_i he
    split at h
    · cases h
    · cases h
      have le : minI ns ≤ n := minI_le hn
      have nl : ¬ l < n := fun q => by
        have : n ∈ ns.filter (gtO (some l)) := List.mem_filter.mpr ⟨hn, by simpa [gtO] using q⟩
        rw [he] at this; cases this
      have yl : ¬ l < minI ns := fun q => by
        have : minI ns ∈ ns.filter (gtO (some l)) := List.mem_filter.mpr ⟨minI_mem (by assumption), by simpa [gtO] using q⟩
        rw [he] at this; cases this
      unfold dist
      repeat' split
      all_goals omega
  · rename_i he
    have hy : minI (ns.filter (gtO (some l))) = y := by injection h
    have my := List.mem_filter.mp (minI_mem he)
    have yl : l < y := by rw [← hy]; simpa [gtO] using my.2
    have le : l < n → y ≤ n := fun q => by
      rw [← hy]; exact minI_le (List.mem_filter.mpr ⟨hn, by simpa [gtO] using q⟩)
    unfold dist
    repeat' split
    all_goals omega
theorem bestP_len (g : Int → Int) (ns : List Int) : (bestP g ns).length ≤ 2 := by unfold bestP; simp; omega
theorem bestP_nil (g : Int → Int) : bestP g [] = [] := rfl
/-- what holds at each turn's start -/
structure TInv (count : Int) (s : TS) (held : Int) (w : Int → Int) : Prop where
  len : s.rew.length ≤ 2
  hld : ∀ x, s.holder = some x → held + s.left = 6 ∧ 1 ≤ s.left ∧ 1 ≤ held ∧ ∃ l, s.last = some l
  last : ∀ l, s.last = some l → 0 ≤ l ∧ l < count
  wait : ∀ n, 0 ≤ n → n < count → w n ≤ 0 ∨ ∃ l, s.last = some l ∧ held ≤ 5 ∧ w n ≤ 5 * (count - dist count l n) + held - 1
def newW (ns : List Int) (o : Option Int) (w : Int → Int) (n : Int) : Int := if n ∉ ns ∨ some n = o then 0 else w n + 1
theorem TInv.leave {count : Int} {s : TS} {held : Int} {w : Int → Int} (h : TInv count s held w) (n : Int) : TInv count (leaveS s n) held w := by
  refine ⟨Nat.le_trans (List.length_filter_le _ _) h.len, fun x hx => ?_, h.last, h.wait⟩
  by_cases q : s.holder = some n
  · simp [leaveS, q] at hx
  · simp only [leaveS, q, if_false] at hx ⊢
    exact h.hld x hx
theorem TInv.step {count : Int} {s : TS} {held : Int} {w : Int → Int} (h : TInv count s held w) (hc : 7 ≤ count) (ns : List Int) (g : Int → Int) (hb : ∀ n ∈ ns, 0 ≤ n ∧ n < count) :
    let r := stepS s ns g
    let held' := if r.1.isSome = true then 1 else held + 1
    TInv count r.2 held' (newW ns r.1 w) ∧ (r.2.holder = none → r.2.rew = []) ∧ (r.2.holder.isSome = true → held' ≤ 5) ∧ ∀ n, 0 ≤ n → n < count → newW ns r.1 w n ≤ 5 * count := by
  have fin : ∀ {s' : TS} {held' : Int} {w' : Int → Int}, TInv count s' held' w' → ∀ n, 0 ≤ n → n < count → w' n ≤ 5 * count := fun {s' held' w'} h' n h1 h2 => by
    rcases h'.wait n h1 h2 with q | ⟨l, e, q1, q2⟩
    · omega
    · have lb := h'.last l e
      have : 1 ≤ dist count l n := by unfold dist; split <;> omega
      omega
  intro r held'
  have dn : ∀ {l n : Int}, 0 ≤ l ∧ l < count → 0 ≤ n → n < count → 1 ≤ dist count l n ∧ dist count l n ≤ count ∧ (n ≠ l → dist count l n < count) := fun {l n} h1 h2 h3 => by unfold dist; split <;> omega
  suffices main : TInv count r.2 held' (newW ns r.1 w) ∧ (r.2.holder = none → r.2.rew = []) ∧ (r.2.holder.isSome = true → held' ≤ 5) from ⟨main.1, main.2.1, main.2.2, fin main.1⟩
  have hr : r = stepS s ns g := rfl
  unfold stepS at hr
  by_cases q : (s.holder.isSome = true ∧ s.holder.any (fun x => decide (x ∈ ns)) = true ∧ 0 < (if 0 < s.left then s.left - 1 else s.left))
  · rw [if_pos q] at hr
    have hh : held' = held + 1 := by show (if r.1.isSome = true then 1 else held + 1) = _; rw [hr]; rfl
    rw [hh, hr]
    obtain ⟨x, hx⟩ := Option.isSome_iff_exists.mp q.1
    obtain ⟨a1, a2, a3, l, a4⟩ := h.hld x hx
    have lp : 0 < s.left := by omega
    have q3 := q.2.2
    rw [if_pos lp] at q3
    simp only [if_pos lp]
    refine ⟨⟨h.len, fun y hy => ⟨by simp only; omega, by simp only; omega, by omega, l, a4⟩, h.last, fun n h1 h2 => ?_⟩, fun e => absurd (hx.symm.trans e) (by simp), fun _ => by omega⟩
    unfold newW
    split
    · exact .inl (Int.le_refl _)
    · have lb := dn (h.last l a4) h1 h2
      refine .inr ⟨l, a4, by omega, ?_⟩
      rcases h.wait n h1 h2 with z | ⟨l', e, z1, z2⟩
      · omega
      · rw [a4] at e; cases e; omega
  · rw [if_neg q] at hr
    cases e : nextOf ns s.last with
    | none =>
      simp only [e, if_true] at hr
      have nn := nextOf_none e
      subst nn
      rw [hr]
      refine ⟨⟨by simp [bestP_nil], (fun x hx => by cases hx), h.last, fun n h1 h2 => .inl (by simp [newW])⟩, fun _ => by simp [bestP_nil], (fun z => by cases z)⟩
    | some y =>
      simp only [e, reduceCtorEq, if_false] at hr
      have hh : held' = 1 := by show (if r.1.isSome = true then 1 else held + 1) = _; rw [hr]; rfl
      rw [hh, hr]
      have ym := nextOf_mem e
      have yb := hb y ym
      refine ⟨⟨bestP_len _ _, fun x hx => ⟨by simp, by simp, by omega, y, rfl⟩, fun l hl => by simp only [Option.some.injEq] at hl; rw [← hl]; exact yb, fun n h1 h2 => ?_⟩, (fun z => by cases z), fun _ => by omega⟩
      unfold newW
      split
      · exact .inl (Int.le_refl _)
      · rename_i z
        have z1 : n ∈ ns := Classical.byContradiction fun t => z (.inl t)
        have z2 : n ≠ y := fun t => z (.inr (by rw [t]))
        have lb := dn yb h1 h2
        refine .inr ⟨y, rfl, by omega, ?_⟩
        rcases h.wait n h1 h2 with u | ⟨l, el, u1, u2⟩
        · have := lb.2.2 z2; omega
        · rw [el] at e
          have := nextOf_dist hb (h.last l el) e z1 z2
          omega
theorem servedS_len (s : TS) : (servedS s).length = s.rew.length + s.holder.toList.length := by
  unfold servedS; rw [(sortI_perm _).length_eq, List.length_append]
end Lw


namespace Lw
open PySem L2 DL
def LW_1 (cTurns : Addr) : SM := sSet 1 (eMake cTurns (m_Turns_init cTurns) aNil)
def LW_2 (cTurns : Addr) : SM := sSet 2 (eNewD (dDisp [(eC (.str "holder"), eC .non), (eC (.str "last"), eC .non), (eC (.str "left"), eC (.int 0)), (eC (.str "rewards"), eLst (lenOk (aNil)))]))
def LW_3 (cTurns : Addr) : SM := sSet 3 (eBin (fI gAdd) (eC (.int 7)) (eBin (fI gMod) (eCall (m_law_cell cTurns) (aCons (eVar 0) (aCons (eC (.int 0)) (aNil)))) (eC (.int 54))))
def LW_4 (cTurns : Addr) : SM := sSet 4 (eLst (eLc (iRange1 (aCons (eVar 3) (aNil))) (.nm 9) (mYes) (eVar 9) [9]))
def LW_5 (cTurns : Addr) : SM := sSet 5 (eNewD (dEmpty))
def LW_6 (cTurns : Addr) : SM := sSet 6 (eC (.int 0))
def LW_7b_1 (cTurns : Addr) : SM := sSet 8 (eCall (m_law_rich cTurns) (aCons (eCall (m_law_cell cTurns) (aCons (eVar 0) (aCons (eBin (fI gAdd) (eC (.int 1)) (eBin (fI gDiv) (eVar 7) (eC (.int 2)))) (aNil)))) (aCons (eVar 7) (aNil))))
def LW_7b_2 (cTurns : Addr) : SM := sIf (tBl (eBin dEq (eBin (fI gMod) (eBin (fI gDiv) (eVar 8) (eC (.int 3))) (eC (.int 3))) (eC (.int 0)))) (sSet 4 (eCall (m_law_wishing cTurns) (aCons (eBin (fI gDiv) (eVar 8) (eC (.int 9))) (aCons (eVar 4) (aCons (eVar 3) (aNil)))))) (sNil)
def LW_7b_3 (cTurns : Addr) : SM := sIf (tBl (eBin dEq (eBin (fI gMod) (eBin (fI gDiv) (eVar 8) (eC (.int 7))) (eC (.int 11))) (eC (.int 0)))) (sSeq (sSet 9 (eBin (fI gMod) (eBin (fI gDiv) (eVar 8) (eC (.int 77))) (eVar 3))) (sSeq (sExpr (eMeth cTurns "leave" (m_Turns_leave cTurns) (eVar 1) (aCons (eVar 9) (aNil)))) (sSeq (sExpr (eCall (m_law_turn_leave cTurns) (aCons (eVar 2) (aCons (eVar 9) (aNil))))) (sSet 4 (eLst (eLc (iLst (eVar 4)) (.nm 14) (tBl (eBin dNe (eVar 14) (eVar 9))) (eVar 14) [14])))))) (sNil)
def LW_7b_4 (cTurns : Addr) : SM := sSet 10 (eDct (eCBD cDictP (aCons (eLst (eLc (iRange1 (aCons (eVar 3) (aNil))) (.nm 9) (mYes) (eTup (aCons (eVar 9) (aCons (eBin (fI gMod) (eBin (fI gDiv) (eVar 8) (eBin (fI gAdd) (eC (.int 5)) (eVar 9))) (eC (.int 4))) (aNil)))) [9])) (aNil))))
def LW_7b_5 (cTurns : Addr) : SM := sSet 11 (eMeth cTurns "step" (m_Turns_step cTurns) (eVar 1) (aCons (eLst (eCB cSeq (aCons (eVar 4) (aNil)))) (aCons (eDct (eCBD cDictD (aCons (eVar 10) (aNil)))) (aNil))))
def LW_7b_6 (cTurns : Addr) : SM := sSet 12 (eCall (m_law_turn_step cTurns) (aCons (eVar 2) (aCons (eVar 4) (aCons (eVar 10) (aNil)))))
def LW_7b_7 (cTurns : Addr) : SM := sIf (tOr' (tBl (eBin dNe (eBin dIsN (eVar 12) (eC .non)) (eBin dIsN (eVar 11) (eC .non)))) (tAnd' (tBl (eBin dNotN (eVar 12) (eC .non))) (tNot' (tTru (eCB cIsi (aCons (eVar 11) (aCons (eC (.ty "int")) (aNil)))))))) (sRet (eC (.bl false))) (sNil)
def LW_7b_8 (cTurns : Addr) : SM := sIf (tOr' (tNot' (tTru (eCB cIsi (aCons (eMeth cTurns "served" (m_Turns_served cTurns) (eVar 1) aNil) (aCons (eC (.ty "list")) (aNil)))))) (tOr' (tBl (eBin dNe (eVar 11) (eVar 12))) (tBl (eBin dNe (eMeth cTurns "served" (m_Turns_served cTurns) (eVar 1) aNil) (eCall (m_law_served cTurns) (aCons (eVar 2) (aNil))))))) (sRet (eC (.bl false))) (sNil)
def LW_7b_9 (cTurns : Addr) : SM := sSet 6 (eIf (tBl (eBin dNotN (eVar 11) (eC .non))) (eC (.int 1)) (eBin (fI gAdd) (eVar 6) (eC (.int 1))))
def LW_7b_10 (cTurns : Addr) : SM := sSet 13 (eMeth cTurns "served" (m_Turns_served cTurns) (eVar 1) aNil)
def LW_7b_11 (cTurns : Addr) : SM := sIf (tOr' (tBl (eBin (fI gGt) (eCB cLen (aCons (eVar 13) (aNil))) (eC (.int 3)))) (tAnd' (tBl (eBin (fI gGt) (eCB cLen (aCons (eVar 13) (aNil))) (eC (.int 0)))) (tBl (eBin (fI gGt) (eVar 6) (eC (.int 5)))))) (sRet (eC (.bl false))) (sNil)
def LW_7b_12b_1 (cTurns : Addr) : SM := sDPut' (eVar 5) (eVar 9) (eIf (tOr' (tBl (eBin dNotIn (eVar 9) (eVar 4))) (tBl (eBin dEq (eVar 9) (eVar 11)))) (eC (.int 0)) (eBin (fI gAdd) (eGet2 (eVar 5) (eVar 9) (eC (.int 0))) (eC (.int 1))))
def LW_7b_12b_2 (cTurns : Addr) : SM := sIf (tBl (eBin (fI gGt) (eBin dGet (eVar 5) (eVar 9)) (eBin (fI gMul) (eC (.int 5)) (eVar 3)))) (sRet (eC (.bl false))) (sNil)
def LW_7b_12b (cTurns : Addr) : SM := (sSeq (LW_7b_12b_1 cTurns) (LW_7b_12b_2 cTurns))
def LW_7b_12 (cTurns : Addr) : SM := sFor (iRange1 (aCons (eVar 3) (aNil))) (.nm 9) (LW_7b_12b cTurns)
def LW_7b (cTurns : Addr) : SM := (sSeq (LW_7b_1 cTurns) (sSeq (LW_7b_2 cTurns) (sSeq (LW_7b_3 cTurns) (sSeq (LW_7b_4 cTurns) (sSeq (LW_7b_5 cTurns) (sSeq (LW_7b_6 cTurns) (sSeq (LW_7b_7 cTurns) (sSeq (LW_7b_8 cTurns) (sSeq (LW_7b_9 cTurns) (sSeq (LW_7b_10 cTurns) (sSeq (LW_7b_11 cTurns) (LW_7b_12 cTurns))))))))))))
def LW_7 (cTurns : Addr) : SM := sFor (iRange1 (aCons (eCB cMax2 (aCons (eC (.int 30)) (aCons (eCB cMin2 (aCons (eC (.int 90)) (aCons (eBin (fI gMul) (eC (.int 2)) (eCB cLen (aCons (eVar 0) (aNil)))) (aNil)))) (aNil)))) (aNil))) (.nm 7) (LW_7b cTurns)
def LW_8 (cTurns : Addr) : SM := sRet (eC (.bl true))
def LW (cTurns : Addr) : SM := (sSeq (LW_1 cTurns) (sSeq (LW_2 cTurns) (sSeq (LW_3 cTurns) (sSeq (LW_4 cTurns) (sSeq (LW_5 cTurns) (sSeq (LW_6 cTurns) (sSeq (LW_7 cTurns) (LW_8 cTurns))))))))
theorem LW_eq (cTurns : Addr) : b_law cTurns = LW cTurns := rfl
variable {c : Addr}
theorem sSeq_nx {a b : SM} {ρ ρ1 : DE} {h h1 : DH} (e : a ρ h = .ok .nx ρ1 h1) : sSeq a b ρ h = b ρ1 h1 := by simp only [sSeq_ap, e]
def EN (sc : List Int) (cnt : Int) (ws : List Int) (held : Int) (k rich num giv dea due ser oth : Option D) : DE :=
  [some (.fz (sc.map D.int)), some (.ref 0), some (.ref 1), some (.int cnt), some (.lst (ws.map D.int)), some (.ref 2), some (.int held), k, rich, num, giv, dea, due, ser, oth]
def HP (c : Addr) (s t : TS) (dom : List Int) (w : Int → Int) : DH := [turnsCell c s, stateCell t, .dct (kG dom w)]
section
variable (sc ws : List Int) (cnt held : Int) (k rich num giv dea due ser oth : Option D) (s t : TS) (dom : List Int) (w : Int → Int)
theorem P1 (kk : Int) (h1 : 0 ≤ kk) (h2 : kk < 1000) (h : DH) : ∃ r : Int, LW_7b_1 c (EN sc cnt ws held (some (.int kk)) rich num giv dea due ser oth) h = .ok .nx (EN sc cnt ws held (some (.int kk)) (some (.int r)) num giv dea due ser oth) h := by
  obtain ⟨v, e1⟩ := law_cell_eq (c := c) sc (1 + kk / 2) h (by omega)
  obtain ⟨r, e2⟩ := law_rich_eq (c := c) v kk h h1 h2
  have dv : gDiv kk 2 = some (.int (kk / 2)) := gDiv_ap (by decide) (by decide)
  exact ⟨r, by simp [LW_7b_1, EN, dv, e1, e2]⟩
theorem P2 (r : Int) (h : DH) (hc : 7 ≤ cnt ∧ cnt < 61) (sa : SA ws) (hb : ∀ n ∈ ws, 0 ≤ n ∧ n < cnt) (hl : ws.length ≤ 60) : ∃ ws' : List Int, LW_7b_2 c (EN sc cnt ws held k (some (.int r)) num giv dea due ser oth) h = .ok .nx (EN sc cnt ws' held k (some (.int r)) num giv dea due ser oth) h ∧ SA ws' ∧ ∀ n ∈ ws', 0 ≤ n ∧ n < cnt := by
  have d3 : ∀ x : Int, gDiv x 3 = some (.int (x / 3)) := fun x => gDiv_ap (by decide) (by decide)
  have d9 : ∀ x : Int, gDiv x 9 = some (.int (x / 9)) := fun x => gDiv_ap (by decide) (by decide)
  have m3 : ∀ x : Int, gMod x 3 = some (.int (x % 3)) := fun x => gMod_ap (by decide)
  by_cases q : r / 3 % 3 = 0
  · obtain ⟨ws', e, h1, h2⟩ := law_wishing_eq (c := c) (r / 9) cnt ws h hc sa hb hl
    exact ⟨ws', by simp [LW_7b_2, EN, d3, m3, d9, q, e], h1, h2⟩
  · exact ⟨ws, by simp [LW_7b_2, EN, d3, m3, q], sa, hb⟩
@[simp] theorem insT1 (h : DH) : insD (turnsCell c s :: h) c "leave" (.ref 0) = true := by
  have e1 : ((Str.ofString "leave") == Str.ofString "holder") = false := by decide +kernel
  have e2 : ((Str.ofString "leave") == Str.ofString "last") = false := by decide +kernel
  have e3 : ((Str.ofString "leave") == Str.ofString "left") = false := by decide +kernel
  have e4 : ((Str.ofString "leave") == Str.ofString "rewards") = false := by decide +kernel
  simp [insD, turnsCell, List.lookup, e1, e2, e3, e4]
@[simp] theorem insT2 (h : DH) : insD (turnsCell c s :: h) c "step" (.ref 0) = true := by
  have e1 : ((Str.ofString "step") == Str.ofString "holder") = false := by decide +kernel
  have e2 : ((Str.ofString "step") == Str.ofString "last") = false := by decide +kernel
  have e3 : ((Str.ofString "step") == Str.ofString "left") = false := by decide +kernel
  have e4 : ((Str.ofString "step") == Str.ofString "rewards") = false := by decide +kernel
  simp [insD, turnsCell, List.lookup, e1, e2, e3, e4]
@[simp] theorem insT3 (h : DH) : insD (turnsCell c s :: h) c "served" (.ref 0) = true := by
  have e1 : ((Str.ofString "served") == Str.ofString "holder") = false := by decide +kernel
  have e2 : ((Str.ofString "served") == Str.ofString "last") = false := by decide +kernel
  have e3 : ((Str.ofString "served") == Str.ofString "left") = false := by decide +kernel
  have e4 : ((Str.ofString "served") == Str.ofString "rewards") = false := by decide +kernel
  simp [insD, turnsCell, List.lookup, e1, e2, e3, e4]
theorem P3 (r : Int) (hc : 7 ≤ cnt ∧ cnt < 61) (sa : SA ws) (hb : ∀ n ∈ ws, 0 ≤ n ∧ n < cnt) (hl : ws.length ≤ 60) (iv : TInv cnt s held w) : ∃ (ws' : List Int) (s' : TS) (num' oth' : Option D),
    LW_7b_3 c (EN sc cnt ws held k (some (.int r)) num giv dea due ser oth) (HP c s s dom w) = .ok .nx (EN sc cnt ws' held k (some (.int r)) num' giv dea due ser oth') (HP c s' s' dom w) ∧ SA ws' ∧ (∀ n ∈ ws', 0 ≤ n ∧ n < cnt) ∧ TInv cnt s' held w := by
  have d7 : ∀ x : Int, gDiv x 7 = some (.int (x / 7)) := fun x => gDiv_ap (by decide) (by decide)
  have d77 : ∀ x : Int, gDiv x 77 = some (.int (x / 77)) := fun x => gDiv_ap (by decide) (by decide)
  have m11 : ∀ x : Int, gMod x 11 = some (.int (x % 11)) := fun x => gMod_ap (by decide)
  have mc : ∀ x : Int, gMod x cnt = some (.int (x % cnt)) := fun x => gMod_ap (by omega)
  by_cases q : r / 7 % 11 = 0
  · have hr := iv.len
    have e1 := fun h => Turns_leave_eq (c := c) s (r / 77 % cnt) h (by omega)
    have e2 := fun x h => law_turn_leave_eq (c := c) s (r / 77 % cnt) x h (by omega)
    have e : ∀ o0 o1 o2 o3 o5 o6 o7 o8 o10 o11 o12 o13 h, lcL (fun _ => true) (.nm 14) (tBl (eBin dNe (eVar 14) (eVar 9))) (eVar 14) [o0, o1, o2, o3, some (.lst (ws.map D.int)), o5, o6, o7, o8, some (.int (r / 77 % cnt)), o10, o11, o12, o13, none] (ws.map D.int) [] h = .ok ((ws.filter fun n => decide (n ≠ r / 77 % cnt)).map D.int) h := fun o0 o1 o2 o3 o5 o6 o7 o8 o10 o11 o12 o13 h =>
      lcL_ints (fun n => decide (n ≠ r / 77 % cnt)) D.int rfl (by rw [size24]; omega) (fun m hm => by simp) (fun m hm _ => by simp)
    exact ⟨ws.filter fun n => decide (n ≠ r / 77 % cnt), leaveS s (r / 77 % cnt), some (.int (r / 77 % cnt)), oth, by simp [LW_7b_3, EN, HP, d7, d77, m11, mc, q, e1, e2, e], List.Pairwise.filter _ sa, fun n hn => hb n (List.mem_filter.mp hn).1, iv.leave _⟩
  · exact ⟨ws, s, num, oth, by simp [LW_7b_3, EN, d7, m11, q], sa, hb, iv⟩
theorem P4 (r : Int) (hc : 7 ≤ cnt ∧ cnt < 61) (h : DH) : LW_7b_4 c (EN sc cnt ws held k (some (.int r)) num giv dea due ser oth) h = .ok .nx (EN sc cnt ws held k (some (.int r)) num (some (encG (rg cnt.toNat) fun n => r / (5 + n) % 4)) dea due ser oth) h := by
  have c1 : -(4611686018427387904 : Int) ≤ cnt := by omega
  have c2 : cnt < 4611686018427387904 := by omega
  have dv : ∀ (x y : Int), 0 < y → y < 1073741824 → gDiv x y = some (.int (x / y)) := fun x y h1 h2 => gDiv_ap h1 h2
  have m4 : ∀ x : Int, gMod x 4 = some (.int (x % 4)) := fun x => gMod_ap (by decide)
  have e : lcL (fun _ => true) (.nm 9) mYes (eTup (aCons (eVar 9) (aCons (eBin (fI gMod) (eBin (fI gDiv) (eVar 8) (eBin (fI gAdd) (eC (.int 5)) (eVar 9))) (eC (.int 4))) (aNil)))) ((EN sc cnt ws held k (some (.int r)) none giv dea due ser oth)) ((rg cnt.toNat).map D.int) [] h = .ok ((rg cnt.toNat).map fun n => .tup [.int n, .int (r / (5 + n) % 4)]) h := by
    have := lcL_ints (i := 9) (mt := mYes) (me := (eTup (aCons (eVar 9) (aCons (eBin (fI gMod) (eBin (fI gDiv) (eVar 8) (eBin (fI gAdd) (eC (.int 5)) (eVar 9))) (eC (.int 4))) (aNil))))) (ρ := EN sc cnt ws held k (some (.int r)) none giv dea due ser oth) (h := h) (chk := fun _ => true) (ns := rg cnt.toNat) (fun _ => true) (fun n => .tup [.int n, .int (r / (5 + n) % 4)]) rfl (by rw [size24, rg_len]; omega) (fun m hm => by simp) (fun m hm _ => by
      have := rg_mem.mp hm
      have z1 : 0 < 5 + m := by omega
      have z2 : 5 + m < 1073741824 := by omega
      simp [EN, dv _ _ z1 z2, m4, size24])
    rw [show (rg cnt.toNat).filter (fun _ => true) = rg cnt.toNat from List.filter_eq_self.mpr fun _ _ => rfl] at this
    exact this
  have p := dictP_G (fun n => r / (5 + n) % 4) (rg cnt.toNat) h (sa_nodup (rg_sa _))
  simp only [EN] at e
  simp [LW_7b_4, EN, c1, c2, rngD_rg, e, p, encG]
theorem P5 (g : Int → Int) (hl : ws.length ≤ 100) (hd : ∀ n ∈ ws, n ∈ dom) (dom' : List Int) : LW_7b_5 c (EN sc cnt ws held k rich num (some (encG dom g)) dea due ser oth) (HP c s t dom' w) = .ok .nx (EN sc cnt ws held k rich num (some (encG dom g)) (some (encO (stepS s ws g).1)) due ser oth) (HP c (stepS s ws g).2 t dom' w) := by
  have e := fun h => Turns_step_eq (c := c) s ws dom g h hl hd
  have e' := e [stateCell t, .dct (kG dom' w)]
  simp only [encG] at e'
  simp [LW_7b_5, EN, HP, cDictD, e', encG, -List.map_map]
theorem P6 (g : Int → Int) (hl : ws.length ≤ 100) (sa : SA ws) (hd : ∀ n ∈ ws, n ∈ dom) (dom' : List Int) : LW_7b_6 c (EN sc cnt ws held k rich num (some (encG dom g)) dea due ser oth) (HP c t s dom' w) = .ok .nx (EN sc cnt ws held k rich num (some (encG dom g)) dea (some (encO (stepS s ws g).1)) ser oth) (HP c t (stepS s ws g).2 dom' w) := by
  have e := fun x h => law_turn_step_eq (c := c) s ws dom g x h hl sa hd
  simp [LW_7b_6, EN, HP, e]
theorem isi_int (o : Option Int) (h : DH) (ho : o.isSome = true) : cIsi [encO o, .ty "int"] h = some (.bl true) := by
  cases o with
  | none => cases ho
  | some i => simp [cIsi, tyD, isi]
theorem isi_list (ds : List D) (h : DH) : cIsi [.lst ds, .ty "list"] h = some (.bl true) := by simp [cIsi, tyD, isi]
theorem P7 (o : Option Int) (h : DH) : LW_7b_7 c (EN sc cnt ws held k rich num giv (some (encO o)) (some (encO o)) ser oth) h = .ok .nx (EN sc cnt ws held k rich num giv (some (encO o)) (some (encO o)) ser oth) h := by
  cases o with
  | none => simp [LW_7b_7, EN]
  | some i => have := isi_int (some i) h rfl; simp at this; simp [LW_7b_7, EN, this, truD]
theorem P8 (o : Option Int) (hr : s.rew.length ≤ 2) : LW_7b_8 c (EN sc cnt ws held k rich num giv (some (encO o)) (some (encO o)) ser oth) (HP c s s dom w) = .ok .nx (EN sc cnt ws held k rich num giv (some (encO o)) (some (encO o)) ser oth) (HP c s s dom w) := by
  have e1 := fun h => Turns_served_eq (c := c) s h (by omega)
  have e2 := fun x h => law_served_eq (c := c) s x h (by omega)
  simp [LW_7b_8, EN, HP, e1, e2, isi_list, truD]
theorem P9 (o : Option Int) (h : DH) : LW_7b_9 c (EN sc cnt ws held k rich num giv (some (encO o)) due ser oth) h = .ok .nx (EN sc cnt ws (if o.isSome = true then 1 else held + 1) k rich num giv (some (encO o)) due ser oth) h := by
  cases o with
  | none => simp [LW_7b_9, EN]
  | some i => simp [LW_7b_9, EN]
theorem P10 (hr : s.rew.length ≤ 2) : LW_7b_10 c (EN sc cnt ws held k rich num giv dea due ser oth) (HP c s t dom w) = .ok .nx (EN sc cnt ws held k rich num giv dea due (some (.lst ((servedS s).map D.int))) oth) (HP c s t dom w) := by
  have e1 := fun h => Turns_served_eq (c := c) s h (by omega)
  simp [LW_7b_10, EN, HP, e1]
theorem P11 (h : DH) (l : List Int) (h1 : l.length ≤ 3) (h2 : l.length = 0 ∨ held ≤ 5) : LW_7b_11 c (EN sc cnt ws held k rich num giv dea due (some (.lst (l.map D.int))) oth) h = .ok .nx (EN sc cnt ws held k rich num giv dea due (some (.lst (l.map D.int))) oth) h := by
  have q : ¬ (3 : Int) < (l.length : Int) := by omega
  by_cases z : (0 : Int) < (l.length : Int)
  · have h5 : ¬ 5 < held := by omega
    have z' : l ≠ [] := fun e => by subst e; simp at z
    simp [LW_7b_11, EN, q, h5]
  · have z' : l = [] := List.eq_nil_of_length_eq_zero (by omega)
    subst z'
    simp [LW_7b_11, EN]
end
end Lw


namespace Lw
open PySem L2 DL
variable {c : Addr}
section
variable (sc ws : List Int) (cnt held : Int) (k rich num giv due ser oth : Option D) (s t : TS) (w : Int → Int)
theorem body12 (o : Option Int) (n : Int) (dom dom' : List Int) (f f' : Int → Int) (hc : 7 ≤ cnt ∧ cnt < 61) (hdl : dom.length ≤ 60) (gv : (lookK (Sum.inl n) (kG dom f)).getD (.int 0) = .int (w n))
    (hp : putD (Sum.inl n) (.int (newW ws o w n)) (kG dom f) = kG dom' f') (hl : lookK (Sum.inl n) (kG dom' f') = some (.int (newW ws o w n))) (hb : newW ws o w n ≤ 5 * cnt) :
    LW_7b_12b c (EN sc cnt ws held k rich (some (.int n)) giv (some (encO o)) due ser oth) (HP c s t dom f) = .ok .nx (EN sc cnt ws held k rich (some (.int n)) giv (some (encO o)) due ser oth) (HP c s t dom' f') := by
  have m5 : ∀ x : Int, gMul 5 x = some (.int (5 * x)) := fun x => gMul_ap (.inl (by decide))
  have st : setDct (HP c s t dom f) (.int n) (.int (newW ws o w n)) (.ref 2) = some (HP c s t dom' f') := by
    have : dom.length < 16777216 := by omega
    simp [setDct, HP, kG_len, size24, this, hp]
  have e1 : LW_7b_12b_1 c (EN sc cnt ws held k rich (some (.int n)) giv (some (encO o)) due ser oth) (HP c s t dom f) = .ok .nx (EN sc cnt ws held k rich (some (.int n)) giv (some (encO o)) due ser oth) (HP c s t dom' f') := by
    by_cases q1 : n ∈ ws
    · by_cases q2 : some n = o
      · have v : newW ws o w n = 0 := by simp [newW, q2]
        rw [v] at st
        simp [LW_7b_12b_1, EN, q1, q2, st]
      · have v : newW ws o w n = w n + 1 := by simp [newW, q1, q2]
        rw [v] at st
        have dd : dctD (HP c s t dom f) (.ref 2) = some (kG dom f) := by simp [HP]
        simp only [dctD_ref] at dd
        simp [LW_7b_12b_1, EN, q1, q2, st, dd, gv]
    · have v : newW ws o w n = 0 := by simp [newW, q1]
      rw [v] at st
      simp [LW_7b_12b_1, EN, q1, st]
  have e2 : LW_7b_12b_2 c (EN sc cnt ws held k rich (some (.int n)) giv (some (encO o)) due ser oth) (HP c s t dom' f') = .ok .nx (EN sc cnt ws held k rich (some (.int n)) giv (some (encO o)) due ser oth) (HP c s t dom' f') := by
    have gt : dGet (.ref 2) (.int n) (HP c s t dom' f') = some (.int (newW ws o w n)) := by simp [dGet, HP, hl]
    have nb : ¬ 5 * cnt < newW ws o w n := by omega
    simp [LW_7b_12b_2, EN, gt, m5, nb]
  unfold LW_7b_12b
  rw [sSeq_nx e1, e2]
theorem loop12 (o : Option Int) (N : Nat) (hc : 7 ≤ cnt ∧ cnt < 61) (hN : N ≤ 60) (hb : ∀ n, n ∈ rg N → newW ws o w n ≤ 5 * cnt) : ∀ (suf pre dom : List Int) (f : Int → Int) (num : Option D), pre ++ suf = rg N → (dom = rg N ∨ (dom = pre ∧ ∀ n, w n = 0)) →
    (∀ n ∈ pre, f n = newW ws o w n) → (∀ n, n ∉ pre → f n = w n) →
    ∃ num' f', forL (fun _ => true) (.nm 9) (LW_7b_12b c) (suf.map D.int) (EN sc cnt ws held k rich num giv (some (encO o)) due ser oth) (HP c s t dom f) = .ok .nx (EN sc cnt ws held k rich num' giv (some (encO o)) due ser oth) (HP c s t (rg N) f') ∧ ∀ n ∈ rg N, f' n = newW ws o w n
  | [], pre, dom, f, num, hp, hd, h1, h2 => by
    rw [List.append_nil] at hp
    have : dom = rg N := by rcases hd with e | ⟨e, _⟩; exact e; rw [e, hp]
    subst this
    exact ⟨num, f, by simp [forL], fun n hn => h1 n (hp ▸ hn)⟩
  | n :: suf, pre, dom, f, num, hp, hd, h1, h2 => by
    have nd : (pre ++ n :: suf).Nodup := hp ▸ sa_nodup (rg_sa N)
    have np : n ∉ pre := fun z => (List.nodup_append.mp nd).2.2 n z n List.mem_cons_self rfl
    have nm : n ∈ rg N := hp ▸ (List.mem_append.mpr (.inr List.mem_cons_self))
    have hp' : (pre ++ [n]) ++ suf = rg N := by rw [← hp]; simp
    have prel : pre.length ≤ 60 := by
      have := congrArg List.length hp
      rw [rg_len] at this; simp at this; omega
    have fin : ∀ (dom' : List Int), (dom' = rg N ∨ (dom' = pre ++ [n] ∧ ∀ n, w n = 0)) → putD (Sum.inl n) (.int (newW ws o w n)) (kG dom f) = kG dom' (fun m => if m = n then newW ws o w n else f m) → n ∈ dom' → dom.length ≤ 60 → (lookK (Sum.inl n) (kG dom f)).getD (.int 0) = .int (w n) →
        ∃ num' f', forL (fun _ => true) (.nm 9) (LW_7b_12b c) ((n :: suf).map D.int) (EN sc cnt ws held k rich num giv (some (encO o)) due ser oth) (HP c s t dom f) = .ok .nx (EN sc cnt ws held k rich num' giv (some (encO o)) due ser oth) (HP c s t (rg N) f') ∧ ∀ n ∈ rg N, f' n = newW ws o w n := by
      intro dom' hd' hput hn' hdl gv
      have e := body12 (c := c) sc ws cnt held k rich giv due ser oth s t w o n dom dom' f (fun m => if m = n then newW ws o w n else f m) hc hdl gv hput (by rw [lookG hn']; simp) (hb n nm)
      obtain ⟨num', f', i1, i2⟩ := loop12 o N hc hN hb suf (pre ++ [n]) dom' (fun m => if m = n then newW ws o w n else f m) (some (.int n)) hp' hd' (fun m hm => by
        rcases List.mem_append.mp hm with q | q
        · have : m ≠ n := fun z => np (z ▸ q)
          simp only [this, if_false]; exact h1 m q
        · rw [List.mem_singleton.mp q]; simp) (fun m hm => by
        have q : m ∉ pre := fun z => hm (List.mem_append.mpr (.inl z))
        have q2 : m ≠ n := fun z => hm (List.mem_append.mpr (.inr (by simp [z])))
        simp only [q2, if_false]; exact h2 m q)
      refine ⟨num', f', ?_, i2⟩
      have as : asgT (HP c s t dom f) (.nm 9) (.int n) (EN sc cnt ws held k rich num giv (some (encO o)) due ser oth) = some (EN sc cnt ws held k rich (some (.int n)) giv (some (encO o)) due ser oth) := rfl
      simp only [List.map_cons, forL, if_true, as, e]
      exact i1
    rcases hd with e | ⟨e, wz⟩
    · subst e
      exact fin (rg N) (.inl rfl) (putG_mem nm) nm (by rw [rg_len]; exact hN) (by rw [lookG nm, h2 n np]; rfl)
    · subst e
      exact fin (dom ++ [n]) (.inr ⟨rfl, wz⟩) (putG_new np) (by simp) prel (by rw [lookG_no np, wz n]; rfl)
end
theorem kG_congr {dom : List Int} {f g : Int → Int} (h : ∀ n ∈ dom, f n = g n) : kG dom f = kG dom g := List.map_congr_left fun n hn => by rw [h n hn]
theorem sa_len' {b : Int} : ∀ {ws : List Int} {a : Int}, SA ws → (∀ n ∈ ws, a ≤ n ∧ n < b) → ws.length ≤ (b - a).toNat
  | [], a, _, _ => by simp
  | x :: ws, a, sa, hb => by
    obtain ⟨s1, s2⟩ := List.pairwise_cons.mp sa
    have hx := hb x List.mem_cons_self
    have := sa_len' (b := b) (a := x + 1) s2 fun n hn => ⟨by have := s1 n hn; omega, (hb n (List.mem_cons_of_mem _ hn)).2⟩
    rw [List.length_cons]; omega
theorem sa_len {ws : List Int} {cnt : Int} (sa : SA ws) (hb : ∀ n ∈ ws, 0 ≤ n ∧ n < cnt) (hc : 7 ≤ cnt ∧ cnt < 61) : ws.length ≤ 60 := by
  have := sa_len' sa hb; omega
theorem bodyLaw (sc ws : List Int) (cnt held : Int) (kk : Int) (rich num giv dea due ser oth : Option D) (s : TS) (w : Int → Int) (dom : List Int) (k1 : 0 ≤ kk) (k2 : kk < 1000) (hc : 7 ≤ cnt ∧ cnt < 61) (sa : SA ws) (hb : ∀ n ∈ ws, 0 ≤ n ∧ n < cnt) (iv : TInv cnt s held w)
    (hd : dom = rg cnt.toNat ∨ (dom = [] ∧ ∀ n, w n = 0)) :
    ∃ (ws' : List Int) (held' : Int) (rich' num' giv' dea' due' ser' oth' : Option D) (s' : TS) (w' : Int → Int),
      LW_7b c (EN sc cnt ws held (some (.int kk)) rich num giv dea due ser oth) (HP c s s dom w) = .ok .nx (EN sc cnt ws' held' (some (.int kk)) rich' num' giv' dea' due' ser' oth') (HP c s' s' (rg cnt.toNat) w') ∧ SA ws' ∧ (∀ n ∈ ws', 0 ≤ n ∧ n < cnt) ∧ TInv cnt s' held' w' := by
  obtain ⟨r, e1⟩ := P1 (c := c) sc ws cnt held rich num giv dea due ser oth kk k1 k2 (HP c s s dom w)
  obtain ⟨w2, e2, sa2, hb2⟩ := P2 (c := c) sc ws cnt held (some (.int kk)) num giv dea due ser oth r (HP c s s dom w) hc sa hb (sa_len sa hb hc)
  obtain ⟨w3, s3, num3, oth3, e3, sa3, hb3, iv3⟩ := P3 (c := c) sc w2 cnt held (some (.int kk)) num giv dea due ser oth s dom w r hc sa2 hb2 (sa_len sa2 hb2 hc) iv
  have hl3 := sa_len sa3 hb3 hc
  have e4 := P4 (c := c) sc w3 cnt held (some (.int kk)) num3 giv dea due ser oth3 r hc (HP c s3 s3 dom w)
  let g : Int → Int := fun n => r / (5 + n) % 4
  have mem3 : ∀ n ∈ w3, n ∈ rg cnt.toNat := fun n hn => rg_mem.mpr (by have := hb3 n hn; omega)
  have e5 := P5 (c := c) sc w3 cnt held (some (.int kk)) (some (.int r)) num3 dea due ser oth3 s3 s3 (rg cnt.toNat) w g (by omega) mem3 dom
  have e6 := P6 (c := c) sc w3 cnt held (some (.int kk)) (some (.int r)) num3 (some (encO (stepS s3 w3 g).1)) due ser oth3 s3 (stepS s3 w3 g).2 (rg cnt.toNat) w g (by omega) sa3 mem3 dom
  obtain ⟨iv4, f1, f2, f3⟩ := iv3.step hc.1 w3 g hb3
  generalize hst : stepS s3 w3 g = st at e5 e6 iv4 f1 f2 f3
  obtain ⟨o, s4⟩ := st
  simp only at e5 e6 iv4 f1 f2 f3
  have e7 := P7 (c := c) sc w3 cnt held (some (.int kk)) (some (.int r)) num3 (some (encG (rg cnt.toNat) g)) ser oth3 o (HP c s4 s4 dom w)
  have e8 := P8 (c := c) sc w3 cnt held (some (.int kk)) (some (.int r)) num3 (some (encG (rg cnt.toNat) g)) ser oth3 s4 dom w o iv4.len
  have e9 := P9 (c := c) sc w3 cnt held (some (.int kk)) (some (.int r)) num3 (some (encG (rg cnt.toNat) g)) (some (encO o)) ser oth3 o (HP c s4 s4 dom w)
  generalize hheld : (if o.isSome = true then (1 : Int) else held + 1) = held4 at e9 iv4 f2
  have e10 := P10 (c := c) sc w3 cnt held4 (some (.int kk)) (some (.int r)) num3 (some (encG (rg cnt.toNat) g)) (some (encO o)) (some (encO o)) ser oth3 s4 s4 dom w iv4.len
  have sl := servedS_len s4
  have e11 := P11 (c := c) sc w3 cnt held4 (some (.int kk)) (some (.int r)) num3 (some (encG (rg cnt.toNat) g)) (some (encO o)) (some (encO o)) oth3 (HP c s4 s4 dom w) (servedS s4)
    (by rw [sl]; have := iv4.len; cases s4.holder <;> simp <;> omega)
    (by
      cases ho : s4.holder with
      | none => left; rw [sl, ho, f1 ho]; rfl
      | some x => right; exact f2 (by rw [ho]; rfl))
  obtain ⟨num', f', e12, h12⟩ := loop12 (c := c) sc w3 cnt held4 (some (.int kk)) (some (.int r)) (some (encG (rg cnt.toNat) g)) (some (encO o)) (some (.lst ((servedS s4).map D.int))) oth3 s4 s4 w o cnt.toNat hc (by omega) (fun n hn => f3 n (rg_mem.mp hn).1 (by have := rg_mem.mp hn; omega)) (rg cnt.toNat) [] dom w num3 (List.nil_append _) hd (by simp) (fun _ _ => rfl)
  have c1 : -(4611686018427387904 : Int) ≤ cnt := by omega
  have c2 : cnt < 4611686018427387904 := by omega
  have sf : LW_7b_12 c (EN sc cnt w3 held4 (some (.int kk)) (some (.int r)) num3 (some (encG (rg cnt.toNat) g)) (some (encO o)) (some (encO o)) (some (.lst ((servedS s4).map D.int))) oth3) (HP c s4 s4 dom w) =
      forL (fun _ => true) (.nm 9) (LW_7b_12b c) ((rg cnt.toNat).map D.int) (EN sc cnt w3 held4 (some (.int kk)) (some (.int r)) num3 (some (encG (rg cnt.toNat) g)) (some (encO o)) (some (encO o)) (some (.lst ((servedS s4).map D.int))) oth3) (HP c s4 s4 dom w) := by
    simp [LW_7b_12, EN, c1, c2, rngD_rg]
  refine ⟨w3, held4, some (.int r), num', some (encG (rg cnt.toNat) g), some (encO o), some (encO o), some (.lst ((servedS s4).map D.int)), oth3, s4, newW w3 o w, ?_, sa3, hb3, iv4⟩
  unfold LW_7b
  rw [sSeq_nx e1, sSeq_nx e2, sSeq_nx e3, sSeq_nx e4, sSeq_nx e5, sSeq_nx e6, sSeq_nx e7, sSeq_nx e8, sSeq_nx e9, sSeq_nx e10, sSeq_nx e11, sf, e12]
  unfold HP
  rw [kG_congr h12]
theorem loopLaw (sc : List Int) (cnt : Int) (hc : 7 ≤ cnt ∧ cnt < 61) : ∀ (ks : List Int) (ws : List Int) (held : Int) (k rich num giv dea due ser oth : Option D) (s : TS) (w : Int → Int) (dom : List Int), (∀ kk ∈ ks, 0 ≤ kk ∧ kk < 1000) → SA ws → (∀ n ∈ ws, 0 ≤ n ∧ n < cnt) → TInv cnt s held w →
    (dom = rg cnt.toNat ∨ (dom = [] ∧ ∀ n, w n = 0)) → ∃ ρ' h', forL (fun _ => true) (.nm 7) (LW_7b c) (ks.map D.int) (EN sc cnt ws held k rich num giv dea due ser oth) (HP c s s dom w) = .ok .nx ρ' h'
  | [], ws, held, k, rich, num, giv, dea, due, ser, oth, s, w, dom, _, _, _, _, _ => ⟨EN sc cnt ws held k rich num giv dea due ser oth, HP c s s dom w, by simp [forL]⟩
  | kk :: ks, ws, held, k, rich, num, giv, dea, due, ser, oth, s, w, dom, hk, sa, hb, iv, hd => by
    have hk0 := hk kk List.mem_cons_self
    obtain ⟨ws', held', rich', num', giv', dea', due', ser', oth', s', w', e, sa', hb', iv'⟩ := bodyLaw (c := c) sc ws cnt held kk rich num giv dea due ser oth s w dom hk0.1 hk0.2 hc sa hb iv hd
    obtain ⟨ρ', h', i⟩ := loopLaw sc cnt hc ks ws' held' (some (.int kk)) rich' num' giv' dea' due' ser' oth' s' w' (rg cnt.toNat) (fun x hx => hk x (List.mem_cons_of_mem _ hx)) sa' hb' iv' (.inl rfl)
    refine ⟨ρ', h', ?_⟩
    have as : asgT (HP c s s dom w) (.nm 7) (.int kk) (EN sc cnt ws held k rich num giv dea due ser oth) = some (EN sc cnt ws held (some (.int kk)) rich num giv dea due ser oth) := rfl
    simp only [List.map_cons, forL, if_true, as, e]
    exact i
theorem Turns_init_eq (h : DH) : m_Turns_init c [.ref 0] (.ins c [] :: h) = .ok .non (turnsCell c ⟨none, none, 0, []⟩ :: h) := by
  refine gc_len rfl ?_ rfl
  simp [mDef, b_Turns_init, setFld, putFD, turnsCell]
theorem law_true (ns : List Int) (hl : ns.length ≤ 63) : ∃ h', m_law c [.fz (ns.map D.int)] [] = .ok (.bl true) h' := by
  suffices main : ∃ ρ' h', b_law c ([some (.fz (ns.map D.int))] ++ List.replicate 14 none) [] = .ok (.rt (.bl true)) ρ' h' by
    obtain ⟨ρ', h', e⟩ := main
    have m : mDef 15 (b_law c) [.fz (ns.map D.int)] [] = .ok (.bl true) h' := by
      unfold mDef
      have : ([D.fz (ns.map D.int)].map some ++ List.replicate (15 - [D.fz (ns.map D.int)].length) none) = ([some (D.fz (ns.map D.int))] ++ List.replicate 14 none) := rfl
      rw [this, e]
    exact ⟨[], gc_pure (t := h') rfl (by rw [List.nil_append]; exact m)⟩
  obtain ⟨v, ev⟩ := law_cell_eq (c := c) ns 0 [turnsCell c ⟨none, none, 0, []⟩, stateCell ⟨none, none, 0, []⟩] (by decide)
  have m54 : gMod v 54 = some (.int (v % 54)) := gMod_ap (by decide)
  have m2 : ∀ x : Int, gMul 2 x = some (.int (2 * x)) := fun x => gMul_ap (.inl (by decide))
  have hv : 0 ≤ v % 54 ∧ v % 54 < 54 := ⟨Int.emod_nonneg _ (by decide), Int.emod_lt_of_pos _ (by decide)⟩
  generalize hcnt : 7 + v % 54 = cnt at *
  have hc : 7 ≤ cnt ∧ cnt < 61 := by omega
  have c1 : -(4611686018427387904 : Int) ≤ cnt := by omega
  have c2 : cnt < 4611686018427387904 := by omega
  let K : Int := max 30 (min 90 (2 * (ns.length : Int)))
  have hK : 0 ≤ K ∧ K ≤ 90 := by simp only [K]; omega
  have hK' : -(4611686018427387904 : Int) ≤ max 30 (min 90 (2 * (ns.length : Int))) := by omega
  have hK'' : max 30 (min 90 (2 * (ns.length : Int))) < 4611686018427387904 := by omega
  obtain ⟨ρ', h', e⟩ := loopLaw (c := c) ns cnt hc (rg K.toNat) (rg cnt.toNat) 0 none none none none none none none none ⟨none, none, 0, []⟩ (fun _ => 0) [] (fun kk hk => by have := rg_mem.mp hk; omega) (rg_sa _) (fun n hn => by have := rg_mem.mp hn; omega)
    ⟨by simp, fun x hx => by (cases hx), fun l hx => by (cases hx), fun n _ _ => .inl (by simp)⟩ (.inr ⟨rfl, fun _ => rfl⟩)
  have elc : lcL (fun _ => true) (.nm 9) mYes (eVar 9) [some (.fz (ns.map D.int)), some (.ref 0), some (.ref 1), some (.int cnt), none, none, none, none, none, none, none, none, none, none, none] ((rg cnt.toNat).map D.int) [] [turnsCell c ⟨none, none, 0, []⟩, stateCell ⟨none, none, 0, []⟩] = .ok ((rg cnt.toNat).map D.int) [turnsCell c ⟨none, none, 0, []⟩, stateCell ⟨none, none, 0, []⟩] := by
    have := lcL_ints (i := 9) (mt := mYes) (me := eVar 9) (ρ := [some (.fz (ns.map D.int)), some (.ref 0), some (.ref 1), some (.int cnt), none, none, none, none, none, none, none, none, none, none, none]) (h := [turnsCell c ⟨none, none, 0, []⟩, stateCell ⟨none, none, 0, []⟩]) (chk := fun _ => true) (ns := rg cnt.toNat) (fun _ => true) (fun n => .int n) rfl (by rw [size24, rg_len]; omega) (fun m hm => by simp) (fun m hm _ => by simp)
    rw [show (rg cnt.toNat).filter (fun _ => true) = rg cnt.toNat from List.filter_eq_self.mpr fun _ _ => rfl] at this
    exact this
  have st0 : toKV [(.str "holder", .non), (.str "last", .non), (.str "left", .int 0), (.str "rewards", .lst [])] = some [(.inr "holder", .non), (.inr "last", .non), (.inr "left", .int 0), (.inr "rewards", .lst [])] := rfl
  refine ⟨ρ', h', ?_⟩
  rw [LW_eq]
  unfold LW
  have e1 : LW_1 c ([some (.fz (ns.map D.int))] ++ List.replicate 14 none) [] = .ok .nx [some (.fz (ns.map D.int)), some (.ref 0), none, none, none, none, none, none, none, none, none, none, none, none, none] [turnsCell c ⟨none, none, 0, []⟩] := by
    have ini := Turns_init_eq (c := c) []
    simp [LW_1, ini]
  have e2 : LW_2 c [some (.fz (ns.map D.int)), some (.ref 0), none, none, none, none, none, none, none, none, none, none, none, none, none] [turnsCell c ⟨none, none, 0, []⟩] = .ok .nx [some (.fz (ns.map D.int)), some (.ref 0), some (.ref 1), none, none, none, none, none, none, none, none, none, none, none, none] [turnsCell c ⟨none, none, 0, []⟩, stateCell ⟨none, none, 0, []⟩] := by
    simp [LW_2, st0, mergeD, putD, stateCell]
  have e3 : LW_3 c [some (.fz (ns.map D.int)), some (.ref 0), some (.ref 1), none, none, none, none, none, none, none, none, none, none, none, none] [turnsCell c ⟨none, none, 0, []⟩, stateCell ⟨none, none, 0, []⟩] = .ok .nx [some (.fz (ns.map D.int)), some (.ref 0), some (.ref 1), some (.int cnt), none, none, none, none, none, none, none, none, none, none, none] [turnsCell c ⟨none, none, 0, []⟩, stateCell ⟨none, none, 0, []⟩] := by
    simp [LW_3, ev, m54, hcnt]
  have e4 : LW_4 c [some (.fz (ns.map D.int)), some (.ref 0), some (.ref 1), some (.int cnt), none, none, none, none, none, none, none, none, none, none, none] [turnsCell c ⟨none, none, 0, []⟩, stateCell ⟨none, none, 0, []⟩] = .ok .nx [some (.fz (ns.map D.int)), some (.ref 0), some (.ref 1), some (.int cnt), some (.lst ((rg cnt.toNat).map D.int)), none, none, none, none, none, none, none, none, none, none] [turnsCell c ⟨none, none, 0, []⟩, stateCell ⟨none, none, 0, []⟩] := by
    simp [LW_4, c1, c2, rngD_rg, elc]
  have e5 : LW_5 c [some (.fz (ns.map D.int)), some (.ref 0), some (.ref 1), some (.int cnt), some (.lst ((rg cnt.toNat).map D.int)), none, none, none, none, none, none, none, none, none, none] [turnsCell c ⟨none, none, 0, []⟩, stateCell ⟨none, none, 0, []⟩] = .ok .nx [some (.fz (ns.map D.int)), some (.ref 0), some (.ref 1), some (.int cnt), some (.lst ((rg cnt.toNat).map D.int)), some (.ref 2), none, none, none, none, none, none, none, none, none] (HP c ⟨none, none, 0, []⟩ ⟨none, none, 0, []⟩ [] fun _ => 0) := by
    simp [LW_5, HP, kG]
  have e6 : LW_6 c [some (.fz (ns.map D.int)), some (.ref 0), some (.ref 1), some (.int cnt), some (.lst ((rg cnt.toNat).map D.int)), some (.ref 2), none, none, none, none, none, none, none, none, none] (HP c ⟨none, none, 0, []⟩ ⟨none, none, 0, []⟩ [] fun _ => 0) = .ok .nx (EN ns cnt (rg cnt.toNat) 0 none none none none none none none none) (HP c ⟨none, none, 0, []⟩ ⟨none, none, 0, []⟩ [] fun _ => 0) := by
    simp [LW_6, EN]
  have e7 : LW_7 c (EN ns cnt (rg cnt.toNat) 0 none none none none none none none none) (HP c ⟨none, none, 0, []⟩ ⟨none, none, 0, []⟩ [] fun _ => 0) = .ok .nx ρ' h' := by
    rw [← e]
    simp only [EN]
    simp [LW_7, m2, hK', hK'', rngD_rg, K]
  rw [sSeq_nx e1, sSeq_nx e2, sSeq_nx e3, sSeq_nx e4, sSeq_nx e5, sSeq_nx e6, sSeq_nx e7]
  simp [LW_8]
end Lw


namespace Lw
open PySem PySem.Spec PyProof.Rows L2 DL
/-! ### the law's own wish, met -/
def spLaw (K : PySem.W.Frag) : Sp := fun vs H Q _ => ∃ (a : Addr) (ns : List Int), vs = [.ref a] ∧ SqL K H a (ns.map V.int) ∧ ns.length ≤ 63 ∧ ∀ H', Q (.bl true) H'
section
variable {P : Program} {w : World} {K : PySem.W.Frag} {mg : Str → Option Value} {base : Heap}
theorem ok_end (T : Tx K mg) : FnOk P w K mg base (L2.CX P w) 3 T.f_law T.fd_law ["script"] (spLaw K) :=
  (ok_law T).imp fun vs H Q E ⟨a, ns, hv, hS, hl, q⟩ => by
    obtain ⟨h', e⟩ := law_true (c := T.cTurns) ns hl
    subst hv
    refine ⟨rfl, ⟨[], []⟩, [.fz (ns.map D.int)], [], ⟨rfl, List.nodup_nil, fun n c a h => by simp at h, fun b h => by simp at h⟩, .cons (.fz ?_ (rpL_ints ns)) .nil, ?_⟩
    · rcases hS with hS | hS
      · exact .inl ⟨hS, by simp [AS.no]⟩
      · exact .inr (.inr hS)
    · rw [e]
      intro as' H' s R v r
      cases r
      exact q _
end
end Lw
namespace Lw
open PySem PySem.Spec PyProof.Rows L2 DL
section
theorem all_mk {l : PySem.W.OpenLaw} {w : World} {K : PySem.W.Frag} {h : Heap} {mg : Str → Option Value} {fa : Addr} (X : K.In h) (G : h.Ns mainGlobals mg) (hfa : mg "law" = some (.ref fa))
    {cTurns f_next_of f_best f_Turns_init f_Turns_leave f_Turns_served f_law_cell f_law_rich f_law_next f_law_best f_law_turn_leave f_law_served f_law_wishing f_Turns_step f_law_turn_step f_law : Addr} {od_next_of an_next_of od_best an_best od_Turns_init an_Turns_init od_Turns_leave an_Turns_leave od_Turns_served an_Turns_served od_law_cell an_law_cell od_law_rich an_law_rich od_law_next an_law_next od_law_best an_law_best od_law_turn_leave an_law_turn_leave od_law_served an_law_served od_law_wishing an_law_wishing od_Turns_step an_Turns_step od_law_turn_step an_law_turn_step od_law an_law : Option Addr} {sl_next_of sl_best sl_Turns_init sl_Turns_leave sl_Turns_served sl_law_cell sl_law_rich sl_law_next sl_law_best sl_law_turn_leave sl_law_served sl_law_wishing sl_Turns_step sl_law_turn_step sl_law : Array (Option Value)} {oc_next_of kV_next_of dc_next_of pm_next_of cd_next_of ct_next_of oc_best kV_best dc_best pm_best cd_best ct_best oc_Turns_init kV_Turns_init dc_Turns_init pm_Turns_init cd_Turns_init ct_Turns_init oc_Turns_leave kV_Turns_leave dc_Turns_leave pm_Turns_leave cd_Turns_leave ct_Turns_leave oc_Turns_served kV_Turns_served dc_Turns_served pm_Turns_served cd_Turns_served ct_Turns_served oc_law_cell kV_law_cell dc_law_cell pm_law_cell cd_law_cell ct_law_cell oc_law_rich kV_law_rich dc_law_rich pm_law_rich cd_law_rich ct_law_rich oc_law_next kV_law_next dc_law_next pm_law_next cd_law_next ct_law_next oc_law_best kV_law_best dc_law_best pm_law_best cd_law_best ct_law_best oc_law_turn_leave kV_law_turn_leave dc_law_turn_leave pm_law_turn_leave cd_law_turn_leave ct_law_turn_leave oc_law_served kV_law_served dc_law_served pm_law_served cd_law_served ct_law_served oc_law_wishing kV_law_wishing dc_law_wishing pm_law_wishing cd_law_wishing ct_law_wishing oc_Turns_step kV_Turns_step dc_Turns_step pm_Turns_step cd_Turns_step ct_Turns_step oc_law_turn_step kV_law_turn_step dc_law_turn_step pm_law_turn_step cd_law_turn_step ct_law_turn_step oc_law kV_law dc_law pm_law cd_law ct_law : Value} {tk_REWARDS tk_TURN : Tok}
    (aC_Turns : PySem.W.nsIn K mainGlobals "Turns" = some (some (.ref cTurns)))
    (pg_Turns : PySem.W.plainGet K cTurns Str.empty = true)
    (hd_Turns : PySem.W.hasDictIn K cTurns = true)
    (po_Turns : PySem.W.plainOver K cTurns = true)
    (sa_Turns : PySem.W.findIn K (.ref cTurns) "__setattr__" = some (some (.builtin "object.__setattr__")))
    (mk_Turns : PySem.W.makesIn K cTurns = true)
    (kc_Turns : PySem.W.keepIn K (.ref cTurns) = true)
    (n_Turns_holder : PySem.W.findIn K (.ref cTurns) "holder" = some none)
    (n_Turns_last : PySem.W.findIn K (.ref cTurns) "last" = some none)
    (n_Turns_left : PySem.W.findIn K (.ref cTurns) "left" = some none)
    (n_Turns_rewards : PySem.W.findIn K (.ref cTurns) "rewards" = some none)
    (a_next_of : PySem.W.nsIn K mainGlobals "next_of" = some (some (.ref f_next_of)))
    (l_next_of : K.lookup f_next_of = some ⟨oc_next_of, od_next_of, .func (PySem.W.fnOf "next_of" "next_of" (defArgs st_next_of) (defBody st_next_of) (defScope st_next_of) .none kV_next_of dc_next_of pm_next_of an_next_of cd_next_of ct_next_of), sl_next_of⟩)
    (c_next_of : PySem.W.codeIn K cd_next_of "next_of" = true)
    (k_next_of : PySem.W.keepIn K (.ref f_next_of) = true)
    (a_best : PySem.W.nsIn K mainGlobals "best" = some (some (.ref f_best)))
    (l_best : K.lookup f_best = some ⟨oc_best, od_best, .func (PySem.W.fnOf "best" "best" (defArgs st_best) (defBody st_best) (defScope st_best) .none kV_best dc_best pm_best an_best cd_best ct_best), sl_best⟩)
    (c_best : PySem.W.codeIn K cd_best "best" = true)
    (k_best : PySem.W.keepIn K (.ref f_best) = true)
    (a_Turns_init : PySem.W.findIn K (.ref cTurns) "__init__" = some (some (.ref f_Turns_init)))
    (i_Turns_init : PySem.W.isFn K (.ref f_Turns_init) = true)
    (l_Turns_init : K.lookup f_Turns_init = some ⟨oc_Turns_init, od_Turns_init, .func (PySem.W.fnOf "__init__" "Turns.__init__" (defArgs st_Turns_init) (defBody st_Turns_init) (defScope st_Turns_init) .none kV_Turns_init dc_Turns_init pm_Turns_init an_Turns_init cd_Turns_init ct_Turns_init), sl_Turns_init⟩)
    (c_Turns_init : PySem.W.codeIn K cd_Turns_init "Turns.__init__" = true)
    (k_Turns_init : PySem.W.keepIn K (.ref f_Turns_init) = true)
    (a_Turns_leave : PySem.W.findIn K (.ref cTurns) "leave" = some (some (.ref f_Turns_leave)))
    (i_Turns_leave : PySem.W.isFn K (.ref f_Turns_leave) = true)
    (l_Turns_leave : K.lookup f_Turns_leave = some ⟨oc_Turns_leave, od_Turns_leave, .func (PySem.W.fnOf "leave" "Turns.leave" (defArgs st_Turns_leave) (defBody st_Turns_leave) (defScope st_Turns_leave) .none kV_Turns_leave dc_Turns_leave pm_Turns_leave an_Turns_leave cd_Turns_leave ct_Turns_leave), sl_Turns_leave⟩)
    (c_Turns_leave : PySem.W.codeIn K cd_Turns_leave "Turns.leave" = true)
    (k_Turns_leave : PySem.W.keepIn K (.ref f_Turns_leave) = true)
    (a_Turns_served : PySem.W.findIn K (.ref cTurns) "served" = some (some (.ref f_Turns_served)))
    (i_Turns_served : PySem.W.isFn K (.ref f_Turns_served) = true)
    (l_Turns_served : K.lookup f_Turns_served = some ⟨oc_Turns_served, od_Turns_served, .func (PySem.W.fnOf "served" "Turns.served" (defArgs st_Turns_served) (defBody st_Turns_served) (defScope st_Turns_served) .none kV_Turns_served dc_Turns_served pm_Turns_served an_Turns_served cd_Turns_served ct_Turns_served), sl_Turns_served⟩)
    (c_Turns_served : PySem.W.codeIn K cd_Turns_served "Turns.served" = true)
    (k_Turns_served : PySem.W.keepIn K (.ref f_Turns_served) = true)
    (a_law_cell : PySem.W.nsIn K mainGlobals "_law_cell" = some (some (.ref f_law_cell)))
    (l_law_cell : K.lookup f_law_cell = some ⟨oc_law_cell, od_law_cell, .func (PySem.W.fnOf "_law_cell" "_law_cell" (defArgs st_law_cell) (defBody st_law_cell) (defScope st_law_cell) .none kV_law_cell dc_law_cell pm_law_cell an_law_cell cd_law_cell ct_law_cell), sl_law_cell⟩)
    (c_law_cell : PySem.W.codeIn K cd_law_cell "_law_cell" = true)
    (k_law_cell : PySem.W.keepIn K (.ref f_law_cell) = true)
    (a_law_rich : PySem.W.nsIn K mainGlobals "_law_rich" = some (some (.ref f_law_rich)))
    (l_law_rich : K.lookup f_law_rich = some ⟨oc_law_rich, od_law_rich, .func (PySem.W.fnOf "_law_rich" "_law_rich" (defArgs st_law_rich) (defBody st_law_rich) (defScope st_law_rich) .none kV_law_rich dc_law_rich pm_law_rich an_law_rich cd_law_rich ct_law_rich), sl_law_rich⟩)
    (c_law_rich : PySem.W.codeIn K cd_law_rich "_law_rich" = true)
    (k_law_rich : PySem.W.keepIn K (.ref f_law_rich) = true)
    (a_law_next : PySem.W.nsIn K mainGlobals "_law_next" = some (some (.ref f_law_next)))
    (l_law_next : K.lookup f_law_next = some ⟨oc_law_next, od_law_next, .func (PySem.W.fnOf "_law_next" "_law_next" (defArgs st_law_next) (defBody st_law_next) (defScope st_law_next) .none kV_law_next dc_law_next pm_law_next an_law_next cd_law_next ct_law_next), sl_law_next⟩)
    (c_law_next : PySem.W.codeIn K cd_law_next "_law_next" = true)
    (k_law_next : PySem.W.keepIn K (.ref f_law_next) = true)
    (a_law_best : PySem.W.nsIn K mainGlobals "_law_best" = some (some (.ref f_law_best)))
    (l_law_best : K.lookup f_law_best = some ⟨oc_law_best, od_law_best, .func (PySem.W.fnOf "_law_best" "_law_best" (defArgs st_law_best) (defBody st_law_best) (defScope st_law_best) .none kV_law_best dc_law_best pm_law_best an_law_best cd_law_best ct_law_best), sl_law_best⟩)
    (c_law_best : PySem.W.codeIn K cd_law_best "_law_best" = true)
    (k_law_best : PySem.W.keepIn K (.ref f_law_best) = true)
    (a_law_turn_leave : PySem.W.nsIn K mainGlobals "_law_turn_leave" = some (some (.ref f_law_turn_leave)))
    (l_law_turn_leave : K.lookup f_law_turn_leave = some ⟨oc_law_turn_leave, od_law_turn_leave, .func (PySem.W.fnOf "_law_turn_leave" "_law_turn_leave" (defArgs st_law_turn_leave) (defBody st_law_turn_leave) (defScope st_law_turn_leave) .none kV_law_turn_leave dc_law_turn_leave pm_law_turn_leave an_law_turn_leave cd_law_turn_leave ct_law_turn_leave), sl_law_turn_leave⟩)
    (c_law_turn_leave : PySem.W.codeIn K cd_law_turn_leave "_law_turn_leave" = true)
    (k_law_turn_leave : PySem.W.keepIn K (.ref f_law_turn_leave) = true)
    (a_law_served : PySem.W.nsIn K mainGlobals "_law_served" = some (some (.ref f_law_served)))
    (l_law_served : K.lookup f_law_served = some ⟨oc_law_served, od_law_served, .func (PySem.W.fnOf "_law_served" "_law_served" (defArgs st_law_served) (defBody st_law_served) (defScope st_law_served) .none kV_law_served dc_law_served pm_law_served an_law_served cd_law_served ct_law_served), sl_law_served⟩)
    (c_law_served : PySem.W.codeIn K cd_law_served "_law_served" = true)
    (k_law_served : PySem.W.keepIn K (.ref f_law_served) = true)
    (a_law_wishing : PySem.W.nsIn K mainGlobals "_law_wishing" = some (some (.ref f_law_wishing)))
    (l_law_wishing : K.lookup f_law_wishing = some ⟨oc_law_wishing, od_law_wishing, .func (PySem.W.fnOf "_law_wishing" "_law_wishing" (defArgs st_law_wishing) (defBody st_law_wishing) (defScope st_law_wishing) .none kV_law_wishing dc_law_wishing pm_law_wishing an_law_wishing cd_law_wishing ct_law_wishing), sl_law_wishing⟩)
    (c_law_wishing : PySem.W.codeIn K cd_law_wishing "_law_wishing" = true)
    (k_law_wishing : PySem.W.keepIn K (.ref f_law_wishing) = true)
    (a_Turns_step : PySem.W.findIn K (.ref cTurns) "step" = some (some (.ref f_Turns_step)))
    (i_Turns_step : PySem.W.isFn K (.ref f_Turns_step) = true)
    (l_Turns_step : K.lookup f_Turns_step = some ⟨oc_Turns_step, od_Turns_step, .func (PySem.W.fnOf "step" "Turns.step" (defArgs st_Turns_step) (defBody st_Turns_step) (defScope st_Turns_step) .none kV_Turns_step dc_Turns_step pm_Turns_step an_Turns_step cd_Turns_step ct_Turns_step), sl_Turns_step⟩)
    (c_Turns_step : PySem.W.codeIn K cd_Turns_step "Turns.step" = true)
    (k_Turns_step : PySem.W.keepIn K (.ref f_Turns_step) = true)
    (a_law_turn_step : PySem.W.nsIn K mainGlobals "_law_turn_step" = some (some (.ref f_law_turn_step)))
    (l_law_turn_step : K.lookup f_law_turn_step = some ⟨oc_law_turn_step, od_law_turn_step, .func (PySem.W.fnOf "_law_turn_step" "_law_turn_step" (defArgs st_law_turn_step) (defBody st_law_turn_step) (defScope st_law_turn_step) .none kV_law_turn_step dc_law_turn_step pm_law_turn_step an_law_turn_step cd_law_turn_step ct_law_turn_step), sl_law_turn_step⟩)
    (c_law_turn_step : PySem.W.codeIn K cd_law_turn_step "_law_turn_step" = true)
    (k_law_turn_step : PySem.W.keepIn K (.ref f_law_turn_step) = true)
    (a_law : PySem.W.nsIn K mainGlobals "law" = some (some (.ref f_law)))
    (l_law : K.lookup f_law = some ⟨oc_law, od_law, .func (PySem.W.fnOf "law" "law" (defArgs st_law) (defBody st_law) (defScope st_law) .none kV_law dc_law pm_law an_law cd_law ct_law), sl_law⟩)
    (c_law : PySem.W.codeIn K cd_law "law" = true)
    (k_law : PySem.W.keepIn K (.ref f_law) = true)
    (z_dict : PySem.W.nsIn K mainGlobals "dict" = some none)
    (z_int : PySem.W.nsIn K mainGlobals "int" = some none)
    (z_isinstance : PySem.W.nsIn K mainGlobals "isinstance" = some none)
    (z_len : PySem.W.nsIn K mainGlobals "len" = some none)
    (z_list : PySem.W.nsIn K mainGlobals "list" = some none)
    (z_max : PySem.W.nsIn K mainGlobals "max" = some none)
    (z_min : PySem.W.nsIn K mainGlobals "min" = some none)
    (z_range : PySem.W.nsIn K mainGlobals "range" = some none)
    (z_sorted : PySem.W.nsIn K mainGlobals "sorted" = some none)
    (q_REWARDS : PySem.W.nsIn K mainGlobals "REWARDS" = some (some (.int 2 tk_REWARDS)))
    (q_TURN : PySem.W.nsIn K mainGlobals "TURN" = some (some (.int 5 tk_TURN)))
    : ∃ fd : FuncData, (∀ (s : Shared) (v : Value), BindsTo s fd ⟨[v], []⟩ [("script", v)]) ∧ ∀ base : Heap, K.In base → base.Ns mainGlobals mg → FnOk l.prog w K mg base (L2.CX l.prog w) 3 fa fd ["script"] (spLaw K) := by
  obtain rfl : f_law = fa := by
    have e := (PySem.W.mg_of X G a_law).symm.trans hfa
    injection (Option.some.inj e)
  let T : Tx K mg := {
    cTurns := cTurns,
    cl_Turns := ⟨pg_Turns, hd_Turns, po_Turns, sa_Turns⟩,
    mg_Turns := PySem.W.mg_of X G aC_Turns,
    mk1_Turns := mk_Turns,
    kp_Turns := kc_Turns,
    na_Turns_holder := n_Turns_holder,
    na_Turns_last := n_Turns_last,
    na_Turns_left := n_Turns_left,
    na_Turns_rewards := n_Turns_rewards,
    f_next_of := f_next_of,
    fd_next_of := _,
    Fn_next_of := fun_mk (st := st_next_of) l_next_of c_next_of k_next_of,
    mg_next_of := PySem.W.mg_of X G a_next_of,
    f_best := f_best,
    fd_best := _,
    Fn_best := fun_mk (st := st_best) l_best c_best k_best,
    mg_best := PySem.W.mg_of X G a_best,
    f_Turns_init := f_Turns_init,
    fd_Turns_init := _,
    Fn_Turns_init := fun_mk (st := st_Turns_init) l_Turns_init c_Turns_init k_Turns_init,
    fi_Turns_init := a_Turns_init,
    isf_Turns_init := i_Turns_init,
    f_Turns_leave := f_Turns_leave,
    fd_Turns_leave := _,
    Fn_Turns_leave := fun_mk (st := st_Turns_leave) l_Turns_leave c_Turns_leave k_Turns_leave,
    fi_Turns_leave := a_Turns_leave,
    isf_Turns_leave := i_Turns_leave,
    f_Turns_served := f_Turns_served,
    fd_Turns_served := _,
    Fn_Turns_served := fun_mk (st := st_Turns_served) l_Turns_served c_Turns_served k_Turns_served,
    fi_Turns_served := a_Turns_served,
    isf_Turns_served := i_Turns_served,
    f_law_cell := f_law_cell,
    fd_law_cell := _,
    Fn_law_cell := fun_mk (st := st_law_cell) l_law_cell c_law_cell k_law_cell,
    mg_law_cell := PySem.W.mg_of X G a_law_cell,
    f_law_rich := f_law_rich,
    fd_law_rich := _,
    Fn_law_rich := fun_mk (st := st_law_rich) l_law_rich c_law_rich k_law_rich,
    mg_law_rich := PySem.W.mg_of X G a_law_rich,
    f_law_next := f_law_next,
    fd_law_next := _,
    Fn_law_next := fun_mk (st := st_law_next) l_law_next c_law_next k_law_next,
    mg_law_next := PySem.W.mg_of X G a_law_next,
    f_law_best := f_law_best,
    fd_law_best := _,
    Fn_law_best := fun_mk (st := st_law_best) l_law_best c_law_best k_law_best,
    mg_law_best := PySem.W.mg_of X G a_law_best,
    f_law_turn_leave := f_law_turn_leave,
    fd_law_turn_leave := _,
    Fn_law_turn_leave := fun_mk (st := st_law_turn_leave) l_law_turn_leave c_law_turn_leave k_law_turn_leave,
    mg_law_turn_leave := PySem.W.mg_of X G a_law_turn_leave,
    f_law_served := f_law_served,
    fd_law_served := _,
    Fn_law_served := fun_mk (st := st_law_served) l_law_served c_law_served k_law_served,
    mg_law_served := PySem.W.mg_of X G a_law_served,
    f_law_wishing := f_law_wishing,
    fd_law_wishing := _,
    Fn_law_wishing := fun_mk (st := st_law_wishing) l_law_wishing c_law_wishing k_law_wishing,
    mg_law_wishing := PySem.W.mg_of X G a_law_wishing,
    f_Turns_step := f_Turns_step,
    fd_Turns_step := _,
    Fn_Turns_step := fun_mk (st := st_Turns_step) l_Turns_step c_Turns_step k_Turns_step,
    fi_Turns_step := a_Turns_step,
    isf_Turns_step := i_Turns_step,
    f_law_turn_step := f_law_turn_step,
    fd_law_turn_step := _,
    Fn_law_turn_step := fun_mk (st := st_law_turn_step) l_law_turn_step c_law_turn_step k_law_turn_step,
    mg_law_turn_step := PySem.W.mg_of X G a_law_turn_step,
    f_law := f_law,
    fd_law := _,
    Fn_law := fun_mk (st := st_law) l_law c_law k_law,
    mg_law := PySem.W.mg_of X G a_law,
    mg_dict := PySem.W.mg_none_of X G z_dict,
    mg_int := PySem.W.mg_none_of X G z_int,
    mg_isinstance := PySem.W.mg_none_of X G z_isinstance,
    mg_len := PySem.W.mg_none_of X G z_len,
    mg_list := PySem.W.mg_none_of X G z_list,
    mg_max := PySem.W.mg_none_of X G z_max,
    mg_min := PySem.W.mg_none_of X G z_min,
    mg_range := PySem.W.mg_none_of X G z_range,
    mg_sorted := PySem.W.mg_none_of X G z_sorted,
    tk_REWARDS := tk_REWARDS,
    mg_REWARDS := PySem.W.mg_of X G q_REWARDS,
    tk_TURN := tk_TURN,
    mg_TURN := PySem.W.mg_of X G q_TURN }
  exact ⟨T.fd_law, fun s v => .of_eq rfl, fun base _ _ => ok_end T⟩
theorem walk {l : PySem.W.OpenLaw} {q : Program} {loose : List Str} {XP : (Str → Option Value) → Heap → Prop} {YP : World → Heap → Prop} {d : DefRec} {K : Params → PySem.W.Frag} (hn : l.most = some 63) (hdf : d.params.defaults = [])
    (hY : ∀ (w : World) (h : Heap), YP w h → (K w.params).In h)
    (F : ∀ (w : World) (mg : Str → Option Value) (fa : Addr) (h : Heap), (K w.params).In h → h.Ns mainGlobals mg → mg d.name = some (.ref fa) →
      ∃ fd : FuncData, (∀ (s : Shared) (u : Value), BindsTo s fd ⟨[u], []⟩ [("script", u)]) ∧ ∀ base : Heap, (K w.params).In base → base.Ns mainGlobals mg → FnOk l.prog w (K w.params) mg base (L2.CX l.prog w) 3 fa fd ["script"] (spLaw (K w.params))) :
    PySem.W.WalkO q loose XP YP l.row.toRowW d [] (fun f vs => PySem.call f vs) :=
  L2.walk_of (n := 63) (k := 3) (x := "script") (CX := fun w => L2.CX l.prog w) (sp := fun w => spLaw (K w.params)) hn (by decide) hdf ⟨rfl, by decide, by decide⟩ hY F (fun _ _ a ns hl _ hS => ⟨a, ns, rfl, hS, hl, fun _ => rfl⟩)
    fun _ _ _ _ _ h => by
      obtain ⟨_, _, _, _, _, _, _, _, _, _, _, _, z⟩ := h
      exact z.elim
end
end Lw

open PySem PySem.W PyProof.Rows in
set_option maxRecDepth 100000 in
set_option maxHeartbeats 0 in
theorem PySem.Challenge.cw_anyenough_k67_whole_turns_of_many_neighb_holds : PySem.Challenge.rw_anyenough_k67_whole_turns_of_many_neighb.Holds := by
  w_on; o_law; k_head; (case hw => w_witness2)
  k_fill
  refine Lw.walk (l := PySem.Challenge.rw_anyenough_k67_whole_turns_of_many_neighb) rfl rfl (fun w h Y => PySem.W.kIn_of Y) ?F
  case F =>
    intro w mg fa h KX G hmg
    refine' Lw.all_mk KX G hmg ?aC_Turns ?pg_Turns ?hd_Turns ?po_Turns ?sa_Turns ?mk_Turns ?kc_Turns ?n_Turns_holder ?n_Turns_last ?n_Turns_left ?n_Turns_rewards ?a_next_of ?l_next_of ?c_next_of ?k_next_of ?a_best ?l_best ?c_best ?k_best ?a_Turns_init ?i_Turns_init ?l_Turns_init ?c_Turns_init ?k_Turns_init ?a_Turns_leave ?i_Turns_leave ?l_Turns_leave ?c_Turns_leave ?k_Turns_leave ?a_Turns_served ?i_Turns_served ?l_Turns_served ?c_Turns_served ?k_Turns_served ?a_law_cell ?l_law_cell ?c_law_cell ?k_law_cell ?a_law_rich ?l_law_rich ?c_law_rich ?k_law_rich ?a_law_next ?l_law_next ?c_law_next ?k_law_next ?a_law_best ?l_law_best ?c_law_best ?k_law_best ?a_law_turn_leave ?l_law_turn_leave ?c_law_turn_leave ?k_law_turn_leave ?a_law_served ?l_law_served ?c_law_served ?k_law_served ?a_law_wishing ?l_law_wishing ?c_law_wishing ?k_law_wishing ?a_Turns_step ?i_Turns_step ?l_Turns_step ?c_Turns_step ?k_Turns_step ?a_law_turn_step ?l_law_turn_step ?c_law_turn_step ?k_law_turn_step ?a_law ?l_law ?c_law ?k_law ?z_dict ?z_int ?z_isinstance ?z_len ?z_list ?z_max ?z_min ?z_range ?z_sorted ?q_REWARDS ?q_TURN
    (case aC_Turns => k_is)
    (case pg_Turns => k_is)
    (case hd_Turns => k_is)
    (case po_Turns => k_is)
    (case sa_Turns => k_is)
    (case mk_Turns => k_is)
    (case kc_Turns => k_is)
    (case n_Turns_holder => k_is)
    (case n_Turns_last => k_is)
    (case n_Turns_left => k_is)
    (case n_Turns_rewards => k_is)
    (case a_next_of => k_is)
    (case l_next_of => k_is)
    (case c_next_of => k_is)
    (case k_next_of => k_is)
    (case a_best => k_is)
    (case l_best => k_is)
    (case c_best => k_is)
    (case k_best => k_is)
    (case a_Turns_init => k_is)
    (case i_Turns_init => k_is)
    (case l_Turns_init => k_is)
    (case c_Turns_init => k_is)
    (case k_Turns_init => k_is)
    (case a_Turns_leave => k_is)
    (case i_Turns_leave => k_is)
    (case l_Turns_leave => k_is)
    (case c_Turns_leave => k_is)
    (case k_Turns_leave => k_is)
    (case a_Turns_served => k_is)
    (case i_Turns_served => k_is)
    (case l_Turns_served => k_is)
    (case c_Turns_served => k_is)
    (case k_Turns_served => k_is)
    (case a_law_cell => k_is)
    (case l_law_cell => k_is)
    (case c_law_cell => k_is)
    (case k_law_cell => k_is)
    (case a_law_rich => k_is)
    (case l_law_rich => k_is)
    (case c_law_rich => k_is)
    (case k_law_rich => k_is)
    (case a_law_next => k_is)
    (case l_law_next => k_is)
    (case c_law_next => k_is)
    (case k_law_next => k_is)
    (case a_law_best => k_is)
    (case l_law_best => k_is)
    (case c_law_best => k_is)
    (case k_law_best => k_is)
    (case a_law_turn_leave => k_is)
    (case l_law_turn_leave => k_is)
    (case c_law_turn_leave => k_is)
    (case k_law_turn_leave => k_is)
    (case a_law_served => k_is)
    (case l_law_served => k_is)
    (case c_law_served => k_is)
    (case k_law_served => k_is)
    (case a_law_wishing => k_is)
    (case l_law_wishing => k_is)
    (case c_law_wishing => k_is)
    (case k_law_wishing => k_is)
    (case a_Turns_step => k_is)
    (case i_Turns_step => k_is)
    (case l_Turns_step => k_is)
    (case c_Turns_step => k_is)
    (case k_Turns_step => k_is)
    (case a_law_turn_step => k_is)
    (case l_law_turn_step => k_is)
    (case c_law_turn_step => k_is)
    (case k_law_turn_step => k_is)
    (case a_law => k_is)
    (case l_law => k_is)
    (case c_law => k_is)
    (case k_law => k_is)
    (case z_dict => k_is)
    (case z_int => k_is)
    (case z_isinstance => k_is)
    (case z_len => k_is)
    (case z_list => k_is)
    (case z_max => k_is)
    (case z_min => k_is)
    (case z_range => k_is)
    (case z_sorted => k_is)
    (case q_REWARDS => k_is)
    (case q_TURN => k_is)
