import PyProof.Rows.All
import Wide.All
import OpenK.AllK
import Wide.FinOn
import HandS.ForMost
import HandS.ForExc
import HandS.Walk
import HandS.CallSlots
import HandS.Zip
import HandS.IsInst
import HandS.TupAny
import HandS.Style
import HandS.Flow
import KE.DataEq
import KE.DataCmp
import KE.DataAny
import KE.DataIsa
import HandS.TupMul
import PyProof.ReprRoads
import HandS.Ends
import PyProof.ReprLen
import HandS.Strs
import HandS.SetFor
import KE.GoesEnum
import HandS.Iter
import PySem.Challenge.RW_ridingbench_k74_crowds
set_option Elab.async false
set_option linter.all false
set_option maxRecDepth 100000
set_option maxHeartbeats 8000000
/-! Z1: data trees over the hand layer: values (D), the store (C), what stands for what (VR, SR, ER), answers (R), and how readings follow. -/
namespace Z
open PySem L2

/-- a thing: plain data as a tree; a changing thing by its place in the store -/
inductive D where
  | non | bl (b : Bool) | int (i : Int) | str (x : Str) | tup (ds : List D) | lst (ds : List D) | scr (ds : List D) | dct (ks : List Key) (ds : List D) | loc (l : Nat) | ob (v : V)
/-- a changing thing; a dict may be locked while a loop walks it -/
inductive C where
  | lst (ds : List D) | dK (lk : Bool) (kvs : List (Key × D)) | dT (lk : Bool) (kvs : List (List Key × D)) | ins (c : Addr) (fs : List (Str × D))
abbrev Sto := List C
abbrev Tau := List (Option D)

inductive R (A : Type) where
  | ok (a : A) (S : Sto) | ex (c : Addr) (fs : List (Str × D)) (S : Sto) | bad
def R.bind {A B : Type} (o : R A) (f : A → Sto → R B) : R B := match o with
  | .ok a S => f a S
  | .ex c fs S => .ex c fs S
  | .bad => .bad
@[simp] theorem R.bind_ok {A B : Type} (a : A) (S : Sto) (f : A → Sto → R B) : (R.ok a S).bind f = f a S := rfl
@[simp] theorem R.bind_ex {A B : Type} (c fs) (S : Sto) (f : A → Sto → R B) : (R.ex c fs S).bind f = .ex c fs S := rfl
@[simp] theorem R.bind_bad {A B : Type} (f : A → Sto → R B) : (R.bad).bind f = .bad := rfl

/-- the addresses of the changing things: the store's by place; those that a comprehension under way fills -/
structure Pl where
  loc : List Addr
  hid : List Addr
instance : Membership Addr Pl := ⟨fun p a => a ∈ p.loc ∨ a ∈ p.hid⟩
theorem Pl.mem {ρ : Pl} {a : Addr} : a ∈ ρ ↔ a ∈ ρ.loc ∨ a ∈ ρ.hid := Iff.rfl
def Pl.push (ρ : Pl) (p : Addr) : Pl := ⟨ρ.loc ++ [p], ρ.hid⟩
def Pl.hide (ρ : Pl) (p : Addr) : Pl := ⟨ρ.loc, p :: ρ.hid⟩
def Pl.bare (ρ : Pl) (p : Addr) : Pl := ⟨ρ.loc, ρ.hid.filter fun a => decide (a ≠ p)⟩
theorem Pl.bare_sub {ρ : Pl} {p a : Addr} (h : a ∈ ρ.bare p) : a ∈ ρ := h.imp id fun z => (List.mem_filter.mp z).1
mutual
inductive VR (K : PySem.W.Frag) (ρ : Pl) (H : Hp) : V → D → Prop
  | non : VR K ρ H .non .non
  | bl (b : Bool) : VR K ρ H (.bl b) (.bl b)
  | int (i : Int) : VR K ρ H (.int i) (.int i)
  | str (x : Str) : VR K ρ H (.str x) (.str x)
  | tup {a : Addr} {xs : List V} {ds : List D} : ((H a = some (.tup xs) ∧ a ∉ ρ) ∨ ∀ H', SqT K H' a xs) → VRs K ρ H xs ds → VR K ρ H (.ref a) (.tup ds)
  | lst {a : Addr} {xs : List V} {ds : List D} : H a = some (.lst xs) → a ∉ ρ → VRs K ρ H xs ds → VR K ρ H (.ref a) (.lst ds)
  | scr {a : Addr} {xs : List V} {ds : List D} : ((∃ o, H a = some (.frz o (.lst xs)) ∧ a ∉ ρ) ∨ ∀ H', SqL K H' a xs) → VRs K ρ H xs ds → VR K ρ H (.ref a) (.scr ds)
  | dct {a : Addr} {ws : List (Key × V)} {ks : List Key} {ds : List D} : H a = some (.dK ws) → a ∉ ρ → ws.map (·.1) = ks → VRs K ρ H (ws.map (·.2)) ds → VR K ρ H (.ref a) (.dct ks ds)
  | loc {a : Addr} {l : Nat} : ρ.loc[l]? = some a → VR K ρ H (.ref a) (.loc l)
  | ob (v : V) : VR K ρ H v (.ob v)
inductive VRs (K : PySem.W.Frag) (ρ : Pl) (H : Hp) : List V → List D → Prop
  | nil : VRs K ρ H [] []
  | cons {v : V} {vs : List V} {d : D} {ds : List D} : VR K ρ H v d → VRs K ρ H vs ds → VRs K ρ H (v :: vs) (d :: ds)
end
/-- pairs with keys -/
inductive KR {κ : Type} (P : V → D → Prop) : List (κ × V) → List (κ × D) → Prop
  | nil : KR P [] []
  | cons {k : κ} {v : V} {d : D} {vs : List (κ × V)} {ds : List (κ × D)} : P v d → KR P vs ds → KR P ((k, v) :: vs) ((k, d) :: ds)

/-- a later heap, more places: what was tracked and is no changing thing of the store stands -/
structure Ext (ρ : Pl) (H : Hp) (ρ' : Pl) (H' : Hp) : Prop where
  pre : ∃ r, ρ'.loc = ρ.loc ++ r
  hid : ∀ p ∈ ρ.hid, p ∈ ρ'.hid
  newL : ∀ p ∈ ρ'.loc, p ∈ ρ.loc ∨ H p = none
  newH : ∀ p ∈ ρ'.hid, p ∈ ρ.hid ∨ H p = none
  keep : ∀ b o, H b = some o → b ∉ ρ.loc → H' b = some o
  live : ∀ b, H' b = none → H b = none

section
variable {K : PySem.W.Frag} {ρ ρ' ρ'' : Pl} {H H' H'' : Hp} {S S' : Sto} {σ : St} {τ : Tau}
theorem Ext.refl : Ext ρ H ρ H := ⟨⟨[], by simp⟩, fun _ h => h, fun _ h => .inl h, fun _ h => .inl h, fun _ _ h _ => h, fun _ h => h⟩
theorem Ext.outL (e : Ext ρ H ρ' H') {b : Addr} {o : HO} (h : H b = some o) (hb : b ∉ ρ.loc) : b ∉ ρ'.loc := fun q => by
  rcases e.newL b q with z | z
  · exact hb z
  · rw [h] at z; cases z
theorem Ext.out (e : Ext ρ H ρ' H') {b : Addr} {o : HO} (h : H b = some o) (hb : b ∉ ρ) : b ∉ ρ' := fun q => by
  rcases q with q | q
  · exact e.outL h (fun z => hb (.inl z)) q
  · rcases e.newH b q with z | z
    · exact hb (.inr z)
    · rw [h] at z; cases z
theorem Ext.trans (a : Ext ρ H ρ' H') (b : Ext ρ' H' ρ'' H'') : Ext ρ H ρ'' H'' where
  pre := by
    obtain ⟨r, e⟩ := a.pre
    obtain ⟨q, e2⟩ := b.pre
    exact ⟨r ++ q, by rw [e2, e]; simp⟩
  hid := fun p h => b.hid p (a.hid p h)
  newL := fun p hp => (b.newL p hp).elim (a.newL p) fun z => .inr (a.live p z)
  newH := fun p hp => (b.newH p hp).elim (a.newH p) fun z => .inr (a.live p z)
  keep := fun c o h hc => b.keep c o (a.keep c o h hc) (a.outL h hc)
  live := fun c h => a.live c (b.live c h)
theorem Ext.get (e : Ext ρ H ρ' H') {l : Nat} {a : Addr} (h : ρ.loc[l]? = some a) : ρ'.loc[l]? = some a := by
  obtain ⟨r, e1⟩ := e.pre
  rw [e1, List.getElem?_append_left (List.getElem?_eq_some_iff.mp h).1]; exact h
theorem Ext.kp (e : Ext ρ H ρ' H') {b : Addr} {o : HO} (h : H b = some o) (hb : b ∉ ρ) : H' b = some o := e.keep b o h fun z => hb (.inl z)
mutual
theorem VR.mono (e : Ext ρ H ρ' H') : ∀ {v : V} {d : D}, VR K ρ H v d → VR K ρ' H' v d
  | _, _, .non => .non
  | _, _, .bl b => .bl b
  | _, _, .int i => .int i
  | _, _, .str x => .str x
  | _, _, .tup h hs => .tup (h.imp (fun ⟨h1, h2⟩ => ⟨e.kp h1 h2, e.out h1 h2⟩) id) (VRs.mono e hs)
  | _, _, .lst h h2 hs => .lst (e.kp h h2) (e.out h h2) (VRs.mono e hs)
  | _, _, .scr h hs => .scr (h.imp (fun ⟨o, h1, h2⟩ => ⟨o, e.kp h1 h2, e.out h1 h2⟩) id) (VRs.mono e hs)
  | _, _, .dct h h2 hk hs => .dct (e.kp h h2) (e.out h h2) hk (VRs.mono e hs)
  | _, _, .loc h => .loc (e.get h)
  | _, _, .ob v => .ob v
theorem VRs.mono (e : Ext ρ H ρ' H') : ∀ {vs : List V} {ds : List D}, VRs K ρ H vs ds → VRs K ρ' H' vs ds
  | _, _, .nil => .nil
  | _, _, .cons h hs => .cons (VR.mono e h) (VRs.mono e hs)
end
theorem VRs.length : ∀ {vs : List V} {ds : List D}, VRs K ρ H vs ds → vs.length = ds.length
  | _, _, .nil => rfl
  | _, _, .cons _ hs => by simp [VRs.length hs]
theorem VRs.get : ∀ {vs : List V} {ds : List D} {i : Nat} {d : D}, VRs K ρ H vs ds → ds[i]? = some d → ∃ v, vs[i]? = some v ∧ VR K ρ H v d
  | _, _, _, _, .nil, e => by simp at e
  | _, _, 0, _, .cons h _, e => by simp at e; subst e; exact ⟨_, rfl, h⟩
  | _, _, i + 1, d, .cons _ hs, e => by
    obtain ⟨v, h1, h2⟩ := VRs.get (i := i) (d := d) hs (by simpa using e)
    exact ⟨v, by simpa using h1, h2⟩
theorem VRs.getV : ∀ {vs : List V} {ds : List D} {i : Nat} {v : V}, VRs K ρ H vs ds → vs[i]? = some v → ∃ d, ds[i]? = some d ∧ VR K ρ H v d
  | _, _, _, _, .nil, e => by simp at e
  | _, _, 0, _, .cons h _, e => by simp at e; subst e; exact ⟨_, rfl, h⟩
  | _, _, i + 1, v, .cons _ hs, e => by
    obtain ⟨d, h1, h2⟩ := VRs.getV (i := i) (v := v) hs (by simpa using e)
    exact ⟨d, by simpa using h1, h2⟩
theorem VRs.append : ∀ {vs ws : List V} {ds es : List D}, VRs K ρ H vs ds → VRs K ρ H ws es → VRs K ρ H (vs ++ ws) (ds ++ es)
  | _, _, _, _, .nil, h => h
  | _, _, _, _, .cons h hs, g => .cons h (VRs.append hs g)
theorem VRs.take : ∀ {vs : List V} {ds : List D} (n : Nat), VRs K ρ H vs ds → VRs K ρ H (vs.take n) (ds.take n)
  | _, _, 0, _ => .nil
  | _, _, _ + 1, .nil => .nil
  | _, _, n + 1, .cons h hs => .cons h (VRs.take n hs)
theorem VRs.drop : ∀ {vs : List V} {ds : List D} (n : Nat), VRs K ρ H vs ds → VRs K ρ H (vs.drop n) (ds.drop n)
  | _, _, 0, h => h
  | _, _, _ + 1, .nil => .nil
  | _, _, n + 1, .cons _ hs => VRs.drop n hs
theorem VRs.set {x : V} {d : D} (r : VR K ρ H x d) : ∀ {vs : List V} {ds : List D} (n : Nat), VRs K ρ H vs ds → VRs K ρ H (vs.set n x) (ds.set n d)
  | _, _, _, .nil => .nil
  | _, _, 0, .cons _ hs => .cons r hs
  | _, _, n + 1, .cons h hs => .cons h (VRs.set r n hs)
theorem VRs.reverse {vs : List V} {ds : List D} (h : VRs K ρ H vs ds) : VRs K ρ H vs.reverse ds.reverse := by
  have g : ∀ (vs ws : List V) (ds es : List D), VRs K ρ H vs ds → VRs K ρ H ws es → VRs K ρ H (vs.reverseAux ws) (ds.reverseAux es) := by
    intro vs
    induction vs with
    | nil => intro ws ds es h g; cases h; exact g
    | cons a r ih => intro ws ds es h g; cases h with | cons h hs => exact (ih _ _ _ hs (.cons h g) :)
  exact g _ _ _ _ h .nil
theorem VRs.map_int (ns : List Int) : VRs K ρ H (ns.map V.int) (ns.map D.int) := by
  induction ns with
  | nil => exact .nil
  | cons a r ih => exact .cons (.int a) ih
theorem VRs.of_int : ∀ {vs : List V} {ns : List Int}, VRs K ρ H vs (ns.map D.int) → vs = ns.map V.int
  | _, [], .nil => rfl
  | _, n :: r, .cons (.int _) hs => by rw [VRs.of_int hs]; rfl
theorem KR.length {κ : Type} {P : V → D → Prop} : ∀ {vs : List (κ × V)} {ds : List (κ × D)}, KR P vs ds → vs.length = ds.length
  | _, _, .nil => rfl
  | _, _, .cons _ hs => by simp [KR.length hs]
theorem KR.mono {κ : Type} {P P' : V → D → Prop} (e : ∀ v d, P v d → P' v d) : ∀ {vs : List (κ × V)} {ds : List (κ × D)}, KR P vs ds → KR P' vs ds
  | _, _, .nil => .nil
  | _, _, .cons h hs => .cons (e _ _ h) (KR.mono e hs)

/-- what a cell says of the thing at a -/
def CR (K : PySem.W.Frag) (ρ : Pl) (H : Hp) (a : Addr) : C → Prop
  | .lst ds => ∃ xs, H a = some (.lst xs) ∧ VRs K ρ H xs ds
  | .dK false kvs => ∃ ws, H a = some (.dK ws) ∧ KR (VR K ρ H) ws kvs
  | .dK true kvs => ∃ o ws, H a = some (.frz o (.dK ws)) ∧ KR (VR K ρ H) ws kvs
  | .dT false kvs => ∃ ws, H a = some (.dT ws) ∧ KR (VR K ρ H) ws kvs
  | .dT true kvs => ∃ o ws, H a = some (.frz o (.dT ws)) ∧ KR (VR K ρ H) ws kvs
  | .ins c fs => ∃ dx ws, H a = some (.ins c dx ws) ∧ KR (VR K ρ H) ws fs
structure SR (K : PySem.W.Frag) (ρ : Pl) (S : Sto) (H : Hp) : Prop where
  len : ρ.loc.length = S.length
  nd : ρ.loc.Nodup
  hd : ∀ a ∈ ρ.hid, a ∉ ρ.loc ∧ ∃ o, H a = some o
  cell : ∀ (l : Nat) c, S[l]? = some c → ∃ a, ρ.loc[l]? = some a ∧ CR K ρ H a c
def ER (K : PySem.W.Frag) (ρ : Pl) (H : Hp) (τ : Tau) (σ : St) : Prop := τ.length = σ.length ∧ ∀ (i : Nat) d, τ[i]? = some (some d) → ∃ v, σ[i]? = some (some v) ∧ VR K ρ H v d

theorem CR.isSome {a : Addr} {c : C} (h : CR K ρ H a c) : ∃ o, H a = some o := by
  cases c with
  | lst ds => obtain ⟨xs, h, _⟩ := h; exact ⟨_, h⟩
  | dK lk kvs =>
    cases lk
    · obtain ⟨ws, h, _⟩ := h; exact ⟨_, h⟩
    · obtain ⟨o, ws, h, _⟩ := h; exact ⟨_, h⟩
  | dT lk kvs =>
    cases lk
    · obtain ⟨ws, h, _⟩ := h; exact ⟨_, h⟩
    · obtain ⟨o, ws, h, _⟩ := h; exact ⟨_, h⟩
  | ins cc fs => obtain ⟨dx, ws, h, _⟩ := h; exact ⟨_, h⟩
theorem CR.mono (e : Ext ρ H ρ' H') {a : Addr} {c : C} (h : CR K ρ H a c) (ha : H' a = H a) : CR K ρ' H' a c := by
  have m : ∀ v d, VR K ρ H v d → VR K ρ' H' v d := fun _ _ => VR.mono e
  cases c with
  | lst ds => obtain ⟨xs, h, g⟩ := h; exact ⟨xs, ha.trans h, VRs.mono e g⟩
  | dK lk kvs =>
    cases lk
    · obtain ⟨ws, h, g⟩ := h; exact ⟨ws, ha.trans h, g.mono m⟩
    · obtain ⟨o, ws, h, g⟩ := h; exact ⟨o, ws, ha.trans h, g.mono m⟩
  | dT lk kvs =>
    cases lk
    · obtain ⟨ws, h, g⟩ := h; exact ⟨ws, ha.trans h, g.mono m⟩
    · obtain ⟨o, ws, h, g⟩ := h; exact ⟨o, ws, ha.trans h, g.mono m⟩
  | ins cc fs => obtain ⟨dx, ws, h, g⟩ := h; exact ⟨dx, ws, ha.trans h, g.mono m⟩
theorem SR.memL (r : SR K ρ S H) {a : Addr} (h : a ∈ ρ.loc) : ∃ o, H a = some o := by
  obtain ⟨l, hl, e⟩ := List.getElem_of_mem h
  have hl' : l < S.length := by rw [← r.len]; exact hl
  obtain ⟨b, h1, h2⟩ := r.cell l S[l] (by simp [hl'])
  have : b = a := by
    rw [List.getElem?_eq_getElem hl, e] at h1; exact (Option.some.inj h1).symm
  subst this
  exact h2.isSome
theorem SR.mem (r : SR K ρ S H) {a : Addr} (h : a ∈ ρ) : ∃ o, H a = some o := by
  rcases h with h | h
  · exact r.memL h
  · exact (r.hd a h).2
theorem SR.fresh (r : SR K ρ S H) {p : Addr} (h : H p = none) : p ∉ ρ := fun q => by
  obtain ⟨o, e⟩ := r.mem q
  rw [h] at e; cases e
theorem SR.at (r : SR K ρ S H) {l : Nat} {a : Addr} {c : C} (h : ρ.loc[l]? = some a) (hc : S[l]? = some c) : CR K ρ H a c := by
  obtain ⟨b, h1, h2⟩ := r.cell l c hc
  rw [h] at h1; cases h1; exact h2
theorem ER.mono (e : Ext ρ H ρ' H') (r : ER K ρ H τ σ) : ER K ρ' H' τ σ := ⟨r.1, fun i d h => let ⟨v, h1, h2⟩ := r.2 i d h; ⟨v, h1, h2.mono e⟩⟩
/-- a new thing laid that is none of the store's -/
theorem upd_live {p : Addr} {o : HO} : ∀ b, upd H p o b = none → H b = none := fun b h => by
  by_cases z : b = p
  · subst z; rw [upd_same] at h; cases h
  · rw [upd_ne z] at h; exact h
theorem Ext.fresh {p : Addr} {o : HO} (h : H p = none) : Ext ρ H ρ (upd H p o) := ⟨⟨[], by simp⟩, fun _ h => h, fun _ q => .inl q, fun _ q => .inl q, fun b u e _ => by rw [upd_ne (ne_of_none e h)]; exact e, upd_live⟩
theorem SR.laid (r : SR K ρ S H) {p : Addr} {o : HO} (h : H p = none) : SR K ρ S (upd H p o) := ⟨r.len, r.nd, fun a ha => ⟨(r.hd a ha).1, let ⟨u, hu⟩ := (r.hd a ha).2; ⟨u, by rw [upd_ne (ne_of_none hu h)]; exact hu⟩⟩, fun l c e => by
  obtain ⟨a, h1, h2⟩ := r.cell l c e
  obtain ⟨u, hu⟩ := h2.isSome
  exact ⟨a, h1, h2.mono (Ext.fresh h) (upd_ne (ne_of_none hu h))⟩⟩
/-- a new place -/
theorem Ext.push {p : Addr} {o : HO} (h : H p = none) : Ext ρ H (ρ.push p) (upd H p o) := ⟨⟨[p], rfl⟩, fun _ h => h, fun b q => by
  rcases List.mem_append.mp q with z | z
  · exact .inl z
  · have : b = p := by simpa using z
    subst this; exact .inr h, fun _ q => .inl q, fun b u e _ => by rw [upd_ne (ne_of_none e h)]; exact e, upd_live⟩
theorem SR.push (r : SR K ρ S H) {p : Addr} {o : HO} {c : C} (h : H p = none) (hc : CR K (ρ.push p) (upd H p o) p c) : SR K (ρ.push p) (S ++ [c]) (upd H p o) := by
  refine ⟨by simp [Pl.push, r.len], ?_, fun a ha => ?_, fun l d e => ?_⟩
  · show (ρ.loc ++ [p]).Nodup
    rw [List.nodup_append]
    refine ⟨r.nd, by simp, fun a ha b hb => ?_⟩
    have : b = p := by simpa using hb
    subst this
    rintro rfl
    exact r.fresh h (.inl ha)
  · obtain ⟨h1, u, hu⟩ := r.hd a ha
    have hne : a ≠ p := ne_of_none hu h
    refine ⟨fun q => ?_, u, by rw [upd_ne hne]; exact hu⟩
    rcases List.mem_append.mp (show a ∈ ρ.loc ++ [p] from q) with z | z
    · exact h1 z
    · exact hne (by simpa using z)
  · by_cases hl : l < S.length
    · rw [List.getElem?_append_left hl] at e
      obtain ⟨a, h1, h2⟩ := r.cell l d e
      obtain ⟨u, hu⟩ := h2.isSome
      exact ⟨a, (Ext.push (o := o) h).get h1, h2.mono (Ext.push h) (upd_ne (ne_of_none hu h))⟩
    · have e2 : l = S.length := by
        have := (List.getElem?_eq_some_iff.mp e).1
        simp at this; omega
      subst e2
      rw [List.getElem?_append_right (Nat.le_refl _)] at e
      simp at e
      subst e
      refine ⟨p, ?_, hc⟩
      show (ρ.loc ++ [p])[S.length]? = some p
      rw [← r.len, List.getElem?_append_right (Nat.le_refl _)]; simp
theorem Pl.push_get {p : Addr} (r : SR K ρ S H) : (ρ.push p).loc[S.length]? = some p := by
  show (ρ.loc ++ [p])[S.length]? = some p
  rw [← r.len, List.getElem?_append_right (Nat.le_refl _)]; simp
/-- a thing of the store changed -/
theorem Ext.set {l : Nat} {p : Addr} {o : HO} (h : ρ.loc[l]? = some p) : Ext ρ H ρ (upd H p o) := ⟨⟨[], by simp⟩, fun _ h => h, fun _ q => .inl q, fun _ q => .inl q, fun b u e hb => by
  have : b ≠ p := by rintro rfl; exact hb (List.mem_of_getElem? h)
  rw [upd_ne this]; exact e, upd_live⟩
theorem SR.set (r : SR K ρ S H) {l : Nat} {p : Addr} {o : HO} {c : C} (h : ρ.loc[l]? = some p) (hc : CR K ρ (upd H p o) p c) : SR K ρ (S.set l c) (upd H p o) := by
  refine ⟨by simp [r.len], r.nd, fun a ha => ?_, fun i d e => ?_⟩
  · obtain ⟨h1, u, hu⟩ := r.hd a ha
    have hne : a ≠ p := by rintro rfl; exact h1 (List.mem_of_getElem? h)
    exact ⟨h1, u, by rw [upd_ne hne]; exact hu⟩
  · by_cases hi : i = l
    · subst hi
      have hl : i < S.length := by
        have := (List.getElem?_eq_some_iff.mp e).1
        simpa using this
      rw [List.getElem?_set_self hl] at e
      cases e
      exact ⟨p, h, hc⟩
    · rw [List.getElem?_set_ne (Ne.symm hi)] at e
      obtain ⟨a, h1, h2⟩ := r.cell i d e
      have : a ≠ p := by
        rintro rfl
        obtain ⟨x1, y1⟩ := List.getElem?_eq_some_iff.mp h1
        obtain ⟨x2, y2⟩ := List.getElem?_eq_some_iff.mp h
        exact hi ((List.getElem_inj r.nd).mp (y1.trans y2.symm))
      exact ⟨a, h1, h2.mono (Ext.set h) (upd_ne this)⟩
mutual
theorem VR.unhide {p : Addr} : ∀ {v : V} {d : D}, VR K ρ H v d → VR K (ρ.bare p) H v d
  | _, _, .non => .non
  | _, _, .bl b => .bl b
  | _, _, .int i => .int i
  | _, _, .str x => .str x
  | _, _, .tup h hs => .tup (h.imp (fun ⟨h1, h2⟩ => ⟨h1, fun z => h2 (Pl.bare_sub z)⟩) id) (VRs.unhide hs)
  | _, _, .lst h h2 hs => .lst h (fun z => h2 (Pl.bare_sub z)) (VRs.unhide hs)
  | _, _, .dct h h2 hk hs => .dct h (fun z => h2 (Pl.bare_sub z)) hk (VRs.unhide hs)
  | _, _, .scr h hs => .scr (h.imp (fun ⟨o, h1, h2⟩ => ⟨o, h1, fun z => h2 (Pl.bare_sub z)⟩) id) (VRs.unhide hs)
  | _, _, .loc h => .loc h
  | _, _, .ob v => .ob v
theorem VRs.unhide {p : Addr} : ∀ {vs : List V} {ds : List D}, VRs K ρ H vs ds → VRs K (ρ.bare p) H vs ds
  | _, _, .nil => .nil
  | _, _, .cons h hs => .cons (VR.unhide h) (VRs.unhide hs)
end
mutual
/-- a new hidden thing: what was there stands -/
theorem VR.hide {p : Addr} {o : HO} (hp : H p = none) : ∀ {v : V} {d : D}, VR K ρ H v d → VR K (ρ.hide p) (upd H p o) v d
  | _, _, .non => .non
  | _, _, .bl b => .bl b
  | _, _, .int i => .int i
  | _, _, .str x => .str x
  | _, _, .tup h hs => .tup (h.imp (fun ⟨h1, h2⟩ => ⟨by rw [upd_ne (ne_of_none h1 hp)]; exact h1, fun z => by
      rcases z with z | z
      · exact h2 (.inl z)
      · rcases List.mem_cons.mp z with z | z
        · exact ne_of_none h1 hp z
        · exact h2 (.inr z)⟩) id) (VRs.hide hp hs)
  | _, _, .lst h h2 hs => .lst (by rw [upd_ne (ne_of_none h hp)]; exact h) (fun z => by
      rcases z with z | z
      · exact h2 (.inl z)
      · rcases List.mem_cons.mp z with z | z
        · exact ne_of_none h hp z
        · exact h2 (.inr z)) (VRs.hide hp hs)
  | _, _, .dct h h2 hk hs => .dct (by rw [upd_ne (ne_of_none h hp)]; exact h) (fun z => by
      rcases z with z | z
      · exact h2 (.inl z)
      · rcases List.mem_cons.mp z with z | z
        · exact ne_of_none h hp z
        · exact h2 (.inr z)) hk (VRs.hide hp hs)
  | _, _, .scr h hs => .scr (h.imp (fun ⟨u, h1, h2⟩ => ⟨u, by rw [upd_ne (ne_of_none h1 hp)]; exact h1, fun z => by
      rcases z with z | z
      · exact h2 (.inl z)
      · rcases List.mem_cons.mp z with z | z
        · exact ne_of_none h1 hp z
        · exact h2 (.inr z)⟩) id) (VRs.hide hp hs)
  | _, _, .loc h => .loc h
  | _, _, .ob v => .ob v
theorem VRs.hide {p : Addr} {o : HO} (hp : H p = none) : ∀ {vs : List V} {ds : List D}, VRs K ρ H vs ds → VRs K (ρ.hide p) (upd H p o) vs ds
  | _, _, .nil => .nil
  | _, _, .cons h hs => .cons (VR.hide hp h) (VRs.hide hp hs)
end
theorem ne_hid {p a : Addr} (hp : p ∈ ρ.hid) (h : a ∉ ρ) : a ≠ p := by rintro rfl; exact h (.inr hp)
mutual
/-- the hidden thing changes -/
theorem VR.rehide {p : Addr} {o : HO} (hp : p ∈ ρ.hid) : ∀ {v : V} {d : D}, VR K ρ H v d → VR K ρ (upd H p o) v d
  | _, _, .non => .non
  | _, _, .bl b => .bl b
  | _, _, .int i => .int i
  | _, _, .str x => .str x
  | _, _, .tup h hs => .tup (h.imp (fun ⟨h1, h2⟩ => ⟨by rw [upd_ne (ne_hid hp h2)]; exact h1, h2⟩) id) (VRs.rehide hp hs)
  | _, _, .lst h h2 hs => .lst (by rw [upd_ne (ne_hid hp h2)]; exact h) h2 (VRs.rehide hp hs)
  | _, _, .dct h h2 hk hs => .dct (by rw [upd_ne (ne_hid hp h2)]; exact h) h2 hk (VRs.rehide hp hs)
  | _, _, .scr h hs => .scr (h.imp (fun ⟨u, h1, h2⟩ => ⟨u, by rw [upd_ne (ne_hid hp h2)]; exact h1, h2⟩) id) (VRs.rehide hp hs)
  | _, _, .loc h => .loc h
  | _, _, .ob v => .ob v
theorem VRs.rehide {p : Addr} {o : HO} (hp : p ∈ ρ.hid) : ∀ {vs : List V} {ds : List D}, VRs K ρ H vs ds → VRs K ρ (upd H p o) vs ds
  | _, _, .nil => .nil
  | _, _, .cons h hs => .cons (VR.rehide hp h) (VRs.rehide hp hs)
end
theorem CR.map {a : Addr} {c : C} (h : CR K ρ H a c) (m : ∀ v d, VR K ρ H v d → VR K ρ' H' v d) (ms : ∀ v d, VRs K ρ H v d → VRs K ρ' H' v d) (ha : H' a = H a) : CR K ρ' H' a c := by
  cases c with
  | lst ds => obtain ⟨xs, h, g⟩ := h; exact ⟨xs, ha.trans h, ms _ _ g⟩
  | dK lk kvs =>
    cases lk
    · obtain ⟨ws, h, g⟩ := h; exact ⟨ws, ha.trans h, g.mono m⟩
    · obtain ⟨o, ws, h, g⟩ := h; exact ⟨o, ws, ha.trans h, g.mono m⟩
  | dT lk kvs =>
    cases lk
    · obtain ⟨ws, h, g⟩ := h; exact ⟨ws, ha.trans h, g.mono m⟩
    · obtain ⟨o, ws, h, g⟩ := h; exact ⟨o, ws, ha.trans h, g.mono m⟩
  | ins cc fs => obtain ⟨dx, ws, h, g⟩ := h; exact ⟨dx, ws, ha.trans h, g.mono m⟩
theorem SR.hide (r : SR K ρ S H) {p : Addr} {o : HO} (hp : H p = none) : SR K (ρ.hide p) S (upd H p o) := by
  refine ⟨r.len, r.nd, fun a ha => ?_, fun l c e => ?_⟩
  · rcases List.mem_cons.mp (show a ∈ p :: ρ.hid from ha) with z | z
    · subst z; exact ⟨fun q => r.fresh hp (.inl q), o, upd_same⟩
    · obtain ⟨h1, u, hu⟩ := r.hd a z
      exact ⟨h1, u, by rw [upd_ne (ne_of_none hu hp)]; exact hu⟩
  · obtain ⟨a, h1, h2⟩ := r.cell l c e
    obtain ⟨u, hu⟩ := h2.isSome
    exact ⟨a, h1, h2.map (fun _ _ => VR.hide hp) (fun _ _ => VRs.hide hp) (upd_ne (ne_of_none hu hp))⟩
theorem SR.rehide (r : SR K ρ S H) {p : Addr} {o : HO} (hp : p ∈ ρ.hid) : SR K ρ S (upd H p o) := by
  refine ⟨r.len, r.nd, fun a ha => ?_, fun l c e => ?_⟩
  · obtain ⟨h1, u, hu⟩ := r.hd a ha
    by_cases z : a = p
    · subst z; exact ⟨h1, o, upd_same⟩
    · exact ⟨h1, u, by rw [upd_ne z]; exact hu⟩
  · obtain ⟨a, h1, h2⟩ := r.cell l c e
    have : a ≠ p := by rintro rfl; exact (r.hd _ hp).1 (List.mem_of_getElem? h1)
    exact ⟨a, h1, h2.map (fun _ _ => VR.rehide hp) (fun _ _ => VRs.rehide hp) (upd_ne this)⟩
theorem SR.unhide {p : Addr} (r : SR K ρ S H) : SR K (ρ.bare p) S H := by
  refine ⟨r.len, r.nd, fun a ha => r.hd a (List.mem_filter.mp ha).1, fun l c e => ?_⟩
  obtain ⟨a, h1, h2⟩ := r.cell l c e
  exact ⟨a, h1, h2.map (fun _ _ => VR.unhide) (fun _ _ => VRs.unhide) rfl⟩

theorem Ext.hide {p : Addr} {o : HO} (h : H p = none) : Ext ρ H (ρ.hide p) (upd H p o) := ⟨⟨[], by simp [Pl.hide]⟩, fun _ q => List.mem_cons_of_mem _ q, fun _ q => .inl q, fun a q => by
  rcases List.mem_cons.mp (show a ∈ p :: ρ.hid from q) with z | z
  · subst z; exact .inr h
  · exact .inl z, fun b u e _ => by rw [upd_ne (ne_of_none e h)]; exact e, upd_live⟩
/-- what began without p goes on without it -/
theorem Ext.bare {p : Addr} (e : Ext ρ H ρ' H') (h : p ∉ ρ.hid) : Ext ρ H (ρ'.bare p) H' := ⟨e.pre, fun a q => List.mem_filter.mpr ⟨e.hid a q, decide_eq_true (by rintro rfl; exact h q)⟩, e.newL, fun a q => e.newH a (List.mem_filter.mp q).1, e.keep, e.live⟩
/-- the hidden thing changes: a step of what began when it was not there -/
theorem Ext.rehide {p : Addr} {o : HO} (e : Ext ρ H ρ' H') (h : H p = none) : Ext ρ H ρ' (upd H' p o) := ⟨e.pre, e.hid, e.newL, e.newH, fun b u q hb => by rw [upd_ne (ne_of_none q h)]; exact e.keep b u q hb, fun b q => e.live b (upd_live b q)⟩

/-! ### what an answer asks -/
/-- an exception's own dict -/
def XD (K : PySem.W.Frag) (ρ : Pl) (H : Hp) (dd : Option Addr) (fs : List (Str × D)) : Prop :=
  (fs = [] ∧ dd = none) ∨ ∃ da ws, dd = some da ∧ H da = some (.xd ws) ∧ da ∉ ρ ∧ KR (VR K ρ H) ws fs
def Post (K : PySem.W.Frag) (W : XK) (ρ : Pl) (H : Hp) {A B : Type} (o : R A) (rel : Pl → Hp → B → A → Prop) (Q : B → Hp → Prop) : Prop := match o with
  | .ok d S' => ∀ ρ' H' v, Ext ρ H ρ' H' → SR K ρ' S' H' → rel ρ' H' v d → Q v H'
  | .ex c fs S' => ∀ ρ' H' dd, Ext ρ H ρ' H' → SR K ρ' S' H' → XD K ρ' H' dd fs → W (.ref c) dd H'
  | .bad => False
theorem Post.ext {W : XK} {A B : Type} {o : R A} {rel : Pl → Hp → B → A → Prop} {Q : B → Hp → Prop} (e : Ext ρ H ρ' H') (h : Post K W ρ H o rel Q) : Post K W ρ' H' o rel Q := by
  cases o with
  | ok d S' => exact fun r2 H2 v e2 s2 v2 => h r2 H2 v (e.trans e2) s2 v2
  | ex c fs S' => exact fun r2 H2 v e2 s2 v2 => h r2 H2 v (e.trans e2) s2 v2
  | bad => exact h
theorem Post.bind {W : XK} {A B A' B' : Type} {o : R A} {f : A → Sto → R A'} {rel : Pl → Hp → B → A → Prop} {rel' : Pl → Hp → B' → A' → Prop} {Q : B' → Hp → Prop} {Q1 : B → Hp → Prop}
    (h : Post K W ρ H (o.bind f) rel' Q) (k : ∀ ρ1 H1 S1 v d, Ext ρ H ρ1 H1 → SR K ρ1 S1 H1 → rel ρ1 H1 v d → Post K W ρ1 H1 (f d S1) rel' Q → Q1 v H1) : Post K W ρ H o rel Q1 := by
  cases o with
  | ok d S' => exact fun r2 H2 v e2 s2 v2 => k r2 H2 S' v d e2 s2 v2 (Post.ext e2 h)
  | ex c fs S' => exact h
  | bad => exact h
/-- an answer in hand: the heap as it stands -/
theorem Post.here {W : XK} {A B : Type} {d : A} {rel : Pl → Hp → B → A → Prop} {Q : B → Hp → Prop} {v : B} (h : Post K W ρ H (.ok d S) rel Q) (s : SR K ρ S H) (r : rel ρ H v d) : Q v H := h ρ H v Ext.refl s r
end

/-! ### readings -/
abbrev ME := Tau → Sto → R D
abbrev MT := Tau → Sto → R Bool
abbrev MA := Tau → Sto → R (List D)
abbrev relB : Pl → Hp → Bool → Bool → Prop := fun _ _ b b' => b = b'
def Em (K : PySem.W.Frag) (W : WX) (m : ME) : TE := fun σ H Q => ∃ ρ τ S, SR K ρ S H ∧ ER K ρ H τ σ ∧ Post K (fun c d H' => W c d σ H') ρ H (m τ S) (VR K) Q
def Tm (K : PySem.W.Frag) (W : WX) (m : MT) : TT := fun σ H Q => ∃ ρ τ S, SR K ρ S H ∧ ER K ρ H τ σ ∧ Post K (fun c d H' => W c d σ H') ρ H (m τ S) relB Q
def Am (K : PySem.W.Frag) (W : WX) (m : MA) : TA := fun σ H Q => ∃ ρ τ S, SR K ρ S H ∧ ER K ρ H τ σ ∧ Post K (fun c d H' => W c d σ H') ρ H (m τ S) (VRs K) Q
theorem PE_imp {X : Cx} {e : Expr} {t t' : TE} (h : PE X e t) (k : ∀ σ H Q, t' σ H Q → t σ H Q) : PE X e t' := ⟨fun pins s σ H Q I w => h.run pins s σ H Q I (k σ H Q w)⟩
theorem PT_imp {X : Cx} {e : Expr} {t t' : TT} (h : PT X e t) (k : ∀ σ H Q, t' σ H Q → t σ H Q) : PT X e t' := ⟨fun pins s σ H Q I w => h.run pins s σ H Q I (k σ H Q w)⟩
theorem PW_imp {X : Cx} {e : Expr} {t t' : TT} (h : PW X e t) (k : ∀ σ H Q, t' σ H Q → t σ H Q) : PW X e t' := ⟨fun wh pins s σ H Q I w => h.run wh pins s σ H Q I (k σ H Q w)⟩
theorem PA_imp {X : Cx} {es : List Expr} {t t' : TA} (h : PA X es t) (k : ∀ σ H Q, t' σ H Q → t σ H Q) : PA X es t' := ⟨fun p pins s σ H Q I w => h.run p pins s σ H Q I (k σ H Q w)⟩
theorem PS_imp {X : Cx} {e : Stmt} {t t' : TS} (h : PS X e t) (k : ∀ D σ H, t' D σ H → t D σ H) : PS X e t' := ⟨fun pins s σ H D I w => h.run pins s σ H D I (k D σ H w)⟩
theorem PSs_imp {X : Cx} {e : List Stmt} {t t' : TS} (h : PSs X e t) (k : ∀ D σ H, t' D σ H → t D σ H) : PSs X e t' := ⟨fun pins s σ H D I w => h.run pins s σ H D I (k D σ H w)⟩

section
variable {X : Cx} {W : WX} {σ : St} {H : Hp}
/-- the workhorse: a part is read, then the rest -/
theorem Em_bind {K : PySem.W.Frag} {A' B' : Type} {m : ME} {f : D → Sto → R A'} {rel' : Pl → Hp → B' → A' → Prop} {Q : B' → Hp → Prop} {Q1 : VK} {ρ : Pl} {τ : Tau} {S : Sto} (s : SR K ρ S H) (r : ER K ρ H τ σ)
    (h : Post K (fun c d H' => W c d σ H') ρ H ((m τ S).bind f) rel' Q)
    (k : ∀ ρ1 H1 S1 v d, SR K ρ1 S1 H1 → ER K ρ1 H1 τ σ → Ext ρ H ρ1 H1 → VR K ρ1 H1 v d → Post K (fun c d H' => W c d σ H') ρ1 H1 (f d S1) rel' Q → Q1 v H1) : Em K W m σ H Q1 :=
  ⟨ρ, τ, S, s, r, Post.bind h fun ρ1 H1 S1 v d e s1 v1 p => k ρ1 H1 S1 v d s1 (r.mono e) e v1 p⟩
theorem Tm_bind {K : PySem.W.Frag} {A' B' : Type} {m : MT} {f : Bool → Sto → R A'} {rel' : Pl → Hp → B' → A' → Prop} {Q : B' → Hp → Prop} {Q1 : Bool → Hp → Prop} {ρ : Pl} {τ : Tau} {S : Sto} (s : SR K ρ S H) (r : ER K ρ H τ σ)
    (h : Post K (fun c d H' => W c d σ H') ρ H ((m τ S).bind f) rel' Q)
    (k : ∀ ρ1 H1 S1 b, SR K ρ1 S1 H1 → ER K ρ1 H1 τ σ → Ext ρ H ρ1 H1 → Post K (fun c d H' => W c d σ H') ρ1 H1 (f b S1) rel' Q → Q1 b H1) : Tm K W m σ H Q1 :=
  ⟨ρ, τ, S, s, r, Post.bind h fun ρ1 H1 S1 v d e s1 v1 p => by
    have v1' : v = d := v1
    subst v1'; exact k ρ1 H1 S1 v s1 (r.mono e) e p⟩
theorem Am_bind {K : PySem.W.Frag} {A' B' : Type} {m : MA} {f : List D → Sto → R A'} {rel' : Pl → Hp → B' → A' → Prop} {Q : B' → Hp → Prop} {Q1 : List V → Hp → Prop} {ρ : Pl} {τ : Tau} {S : Sto} (s : SR K ρ S H) (r : ER K ρ H τ σ)
    (h : Post K (fun c d H' => W c d σ H') ρ H ((m τ S).bind f) rel' Q)
    (k : ∀ ρ1 H1 S1 v d, SR K ρ1 S1 H1 → ER K ρ1 H1 τ σ → Ext ρ H ρ1 H1 → VRs K ρ1 H1 v d → Post K (fun c d H' => W c d σ H') ρ1 H1 (f d S1) rel' Q → Q1 v H1) : Am K W m σ H Q1 :=
  ⟨ρ, τ, S, s, r, Post.bind h fun ρ1 H1 S1 v d e s1 v1 p => k ρ1 H1 S1 v d s1 (r.mono e) e v1 p⟩
end
end Z

/-! Z2: rules of expressions: names, constants, operators, tests, displays, calls. -/
namespace Z
open PySem L2

/-! ### what a thing is to be read as -/
/-- the items of a list that is tracked as it stands (to be concatenated) -/
def listD : D → Sto → Option (List D)
  | .lst ds, _ => some ds
  | .loc l, S => match S[l]? with | some (.lst ds) => some ds | _ => none
  | _, _ => none
/-- of a list that is read -/
def listR : D → Sto → Option (List D)
  | .scr ds, _ => some ds
  | .lst ds, _ => some ds
  | .loc l, S => match S[l]? with | some (.lst ds) => some ds | _ => none
  | _, _ => none
section
variable {K : PySem.W.Frag} {ρ : Pl} {H : Hp} {S : Sto} {v : V} {d : D} {ds : List D}
theorem listD_of (s : SR K ρ S H) (r : VR K ρ H v d) (h : listD d S = some ds) : ∃ a xs, v = .ref a ∧ H a = some (.lst xs) ∧ VRs K ρ H xs ds := by
  cases r with
  | lst h1 h2 hs => simp only [listD, Option.some.injEq] at h; subst h; exact ⟨_, _, rfl, h1, hs⟩
  | @loc a l hl =>
    simp only [listD] at h
    split at h
    · rename_i es e
      simp only [Option.some.injEq] at h
      subst h
      obtain ⟨xs, h1, h2⟩ := s.at hl e
      exact ⟨_, _, rfl, h1, h2⟩
    · cases h
  | _ => simp [listD] at h
theorem listR_of (s : SR K ρ S H) (r : VR K ρ H v d) (h : listR d S = some ds) : ∃ a xs, v = .ref a ∧ SqL K H a xs ∧ VRs K ρ H xs ds := by
  cases r with
  | lst h1 h2 hs => simp only [listR, Option.some.injEq] at h; subst h; exact ⟨_, _, rfl, SqL.of h1, hs⟩
  | scr h1 hs =>
    simp only [listR, Option.some.injEq] at h; subst h
    refine ⟨_, _, rfl, ?_, hs⟩
    rcases h1 with ⟨o, h1, _⟩ | h1
    · exact .inl (.inr ⟨o, h1⟩)
    · exact h1 H
  | @loc a l hl =>
    simp only [listR] at h
    split at h
    · rename_i es e
      simp only [Option.some.injEq] at h
      subst h
      obtain ⟨xs, h1, h2⟩ := s.at hl e
      exact ⟨_, _, rfl, SqL.of h1, h2⟩
    · cases h
  | _ => simp [listR] at h
theorem tup_of (r : VR K ρ H v (.tup ds)) : ∃ a xs, v = .ref a ∧ SqT K H a xs ∧ VRs K ρ H xs ds := by
  cases r with
  | tup h hs =>
    refine ⟨_, _, rfl, ?_, hs⟩
    rcases h with ⟨h, _⟩ | h
    · exact SqT.of h
    · exact h H
theorem VR.newTup (s : SR K ρ S H) {p : Addr} {xs : List V} (hp : H p = none) (h : VRs K ρ H xs ds) : VR K ρ (upd H p (.tup xs)) (.ref p) (.tup ds) :=
  .tup (.inl ⟨upd_same, s.fresh hp⟩) (h.mono (Ext.fresh hp))
theorem VR.newLst (s : SR K ρ S H) {p : Addr} {xs : List V} (hp : H p = none) (h : VRs K ρ H xs ds) : VR K ρ (upd H p (.lst xs)) (.ref p) (.lst ds) :=
  .lst upd_same (s.fresh hp) (h.mono (Ext.fresh hp))
/-- a new tuple, a new list as answers -/
theorem Post.newTup {W : XK} {Q : VK} (h : Post K W ρ H (.ok (.tup ds) S) (VR K) Q) (s : SR K ρ S H) {xs : List V} (r : VRs K ρ H xs ds) : ∀ p, H p = none → Q (.ref p) (upd H p (.tup xs)) := fun p hp =>
  h ρ _ _ (Ext.fresh hp) (s.laid hp) (VR.newTup s hp r)
theorem Post.newLst {W : XK} {Q : VK} (h : Post K W ρ H (.ok (.lst ds) S) (VR K) Q) (s : SR K ρ S H) {xs : List V} (r : VRs K ρ H xs ds) : ∀ p, H p = none → Q (.ref p) (upd H p (.lst xs)) := fun p hp =>
  h ρ _ _ (Ext.fresh hp) (s.laid hp) (VR.newLst s hp r)
end

def guardR {A : Type} (c : Prop) [Decidable c] (o : R A) : R A := if c then o else .bad
theorem guardR_post {K W ρ H} {A B : Type} {c : Prop} [Decidable c] {o : R A} {rel : Pl → Hp → B → A → Prop} {Q} (h : Post K W ρ H (guardR c o) rel Q) : c ∧ Post K W ρ H o rel Q := by
  unfold guardR at h
  split at h
  · exact ⟨by assumption, h⟩
  · exact h.elim
@[simp] theorem guardR_pos {A : Type} {c : Prop} [Decidable c] {o : R A} (h : c) : guardR c o = o := if_pos h

/-! ### names and constants -/
def mVar (i : Nat) : ME := fun τ S => match τ[i]? with | some (some d) => .ok d S | _ => .bad
def mC (d : D) : ME := fun _ S => .ok d S
section
variable {X : Cx} {W : WX} {e a b c : Expr} {ma mb mc : ME} {pos : Pos}
theorem z_var (i : Nat) {x : Str} (h : PE X (.Name x pos) (tVar i)) : PE X (.Name x pos) (Em X.K W (mVar i)) := PE_imp h fun σ H Q ⟨ρ, τ, S, s, r, p⟩ => by
  unfold mVar at p
  split at p
  · rename_i d e
    obtain ⟨v, h1, h2⟩ := r.2 i d e
    exact ⟨v, h1, p.here s h2⟩
  · exact p.elim
theorem z_c {v : V} {d : D} (h : PE X e (tC v)) (hv : ∀ ρ H, VR X.K ρ H v d) : PE X e (Em X.K W (mC d)) := PE_imp h fun σ H Q ⟨ρ, τ, S, s, r, p⟩ => p.here s (hv ρ H)
theorem z_int {i j} : PE X (.Constant (.int i) j pos) (Em X.K W (mC (.int i))) := z_c pe_int fun _ _ => .int i
theorem z_bl {i j} : PE X (.Constant (.bool i) j pos) (Em X.K W (mC (.bl i))) := z_c pe_bl fun _ _ => .bl i
theorem z_non {j} : PE X (.Constant .none j pos) (Em X.K W (mC .non)) := z_c pe_non fun _ _ => .non
theorem z_str {i j} : PE X (.Constant (.str i) j pos) (Em X.K W (mC (.str i))) := z_c pe_str fun _ _ => .str i
/-- a module's constant -/
theorem z_glob {x : Str} {v : V} {u : Value} {d : D} (hm : X.mg x = some u) (r : RelV v u) (hv : ∀ ρ H, VR X.K ρ H v d) (hg : Gl X x := by rfl) (hd : (x == ("__debug__" : Str)) = false := by decide) : PE X (.Name x pos) (Em X.K W (mC d)) :=
  z_c (pe_glob hg hm r hd) hv

/-! ### two things and an operator -/
def OpS (K : PySem.W.Frag) (f : D → D → Sto → R D) (r : R2) : Prop := ∀ (W : XK) (ρ : Pl) (S : Sto) (H : Hp) (x y : V) (dx dy : D) (Q : VK), SR K ρ S H → VR K ρ H x dx → VR K ρ H y dy → Post K W ρ H (f dx dy S) (VR K) Q → r x y H Q
def mBin (f : D → D → Sto → R D) (a b : ME) : ME := fun τ S => (a τ S).bind fun x S1 => (b τ S1).bind fun y S2 => f x y S2
theorem Em_op {K : PySem.W.Frag} {f : D → D → Sto → R D} {r : R2} (hs : OpS K f r) {σ : St} {H : Hp} {Q : VK} (h : Em K W (mBin f ma mb) σ H Q) : tOp r (Em K W ma) (Em K W mb) σ H Q := by
  obtain ⟨ρ, τ, S, s, e, p⟩ := h
  exact Em_bind s e p fun ρ1 H1 S1 v d s1 e1 x1 v1 p1 => Em_bind s1 e1 p1 fun ρ2 H2 S2 w d2 s2 e2 x2 v2 p2 => hs _ ρ2 S2 H2 v w d d2 Q s2 (v1.mono x2) v2 p2
theorem z_bin {op : Operator} {f : D → D → Sto → R D} {r : R2} (ho : OpR X (binaryOp op) r) (hs : OpS X.K f r) (ha : PE X a (Em X.K W ma)) (hb : PE X b (Em X.K W mb)) : PE X (.BinOp a op b pos) (Em X.K W (mBin f ma mb)) :=
  PE_imp (pe_op ho ha hb) fun σ H Q h => Em_op hs h
theorem z_cmp {op : CmpOp} {f : D → D → Sto → R D} {r : R2} (ho : OpR X (compareOp op) r) (hs : OpS X.K f r) (ha : PE X a (Em X.K W ma)) (hb : PE X b (Em X.K W mb)) (hm : behindInMarks op b = false := by first | exact nomark _ | rfl) : PE X (.Compare a [op] [b] pos) (Em X.K W (mBin f ma mb)) :=
  PE_imp (pe_cmpR ho ha hb hm) fun σ H Q h => Em_op hs h
/-- a thing that is a truth, as a test -/
def asB : D → Sto → R Bool
  | .bl b, S => .ok b S
  | _, _ => .bad
def mB (m : ME) : MT := fun τ S => (m τ S).bind asB
theorem asB_post {K : PySem.W.Frag} {Wk : XK} {ρ : Pl} {H : Hp} {S : Sto} {v : V} {d : D} {Q : Bool → Hp → Prop} (s : SR K ρ S H) (r : VR K ρ H v d) (h : Post K Wk ρ H (asB d S) relB Q) : ∃ k, v = .bl k ∧ Q k H := by
  unfold asB at h
  split at h
  · cases r
    exact ⟨_, rfl, h.here s rfl⟩
  · exact h.elim
theorem Em_B {K : PySem.W.Frag} {m : ME} {σ : St} {H : Hp} {Q : Bool → Hp → Prop} (h : Tm K W (mB m) σ H Q) : Em K W m σ H (fun x H1 => ∃ k, x = .bl k ∧ Q k H1) := by
  obtain ⟨ρ, τ, S, s, e, p⟩ := h
  exact Em_bind s e p fun ρ1 H1 S1 v d s1 e1 x1 v1 p1 => asB_post s1 v1 p1
theorem t_cmp {op : CmpOp} {f : D → D → Sto → R D} {r : R2} (ho : OpR X (compareOp op) r) (hs : OpS X.K f r) (ha : PE X a (Em X.K W ma)) (hb : PE X b (Em X.K W mb)) (hm : behindInMarks op b = false := by first | exact nomark _ | rfl) : PT X (.Compare a [op] [b] pos) (Tm X.K W (mB (mBin f ma mb))) :=
  PT_imp (pt_cmpR ho ha hb hm) fun σ H Q h => by
    obtain ⟨ρ, τ, S, s, e, p⟩ := h
    have p' : Post X.K (fun c d H' => W c d σ H') ρ H ((ma τ S).bind fun x S1 => ((mb τ S1).bind fun y S2 => f x y S2).bind asB) relB Q := by
      have : ((mBin f ma mb τ S).bind asB) = ((ma τ S).bind fun x S1 => ((mb τ S1).bind fun y S2 => f x y S2).bind asB) := by
        unfold mBin
        cases ma τ S <;> rfl
      rw [← this]; exact p
    refine Em_bind s e p' fun ρ1 H1 S1 v d s1 e1 x1 v1 p1 => ?_
    have p1' : Post X.K (fun c d H' => W c d σ H') ρ1 H1 ((mb τ S1).bind fun y S2 => (f d y S2).bind asB) relB Q := by
      have : (((mb τ S1).bind fun y S2 => f d y S2).bind asB) = ((mb τ S1).bind fun y S2 => (f d y S2).bind asB) := by
        cases mb τ S1 <;> rfl
      rw [← this]; exact p1
    refine Em_bind s1 e1 p1' fun ρ2 H2 S2 w d2 s2 e2 x2 v2 p2 => ?_
    refine hs _ ρ2 S2 H2 v w d d2 _ s2 (v1.mono x2) v2 (Post.bind p2 fun ρ3 H3 S3 z dz x3 s3 v3 p3 => asB_post s3 v3 p3)
/-- a < b < c -/
def mChain (f g : D → D → Sto → R D) (a b c : ME) : ME := fun τ S => (a τ S).bind fun x S1 => (b τ S1).bind fun y S2 => (f x y S2).bind fun k S3 => (asB k S3).bind fun k S3 =>
  if k = true then (c τ S3).bind fun z S4 => g y z S4 else .ok (.bl false) S3
theorem z_chain {op op' : CmpOp} {f g : D → D → Sto → R D} {r r' : R2} (ho : OpR X (compareOp op) r) (hs : OpS X.K f r) (ho' : OpR X (compareOp op') r') (hs' : OpS X.K g r') (ha : PE X a (Em X.K W ma)) (hb : PE X b (Em X.K W mb)) (hc : PE X c (Em X.K W mc)) 
    (h : PE X (.Compare a [op, op'] [b, c] pos) (tChain r r' (Em X.K W ma) (Em X.K W mb) (Em X.K W mc))) : PE X (.Compare a [op, op'] [b, c] pos) (Em X.K W (mChain f g ma mb mc)) :=
  PE_imp h fun σ H Q h => by
    obtain ⟨ρ, τ, S, s, e, p⟩ := h
    refine Em_bind s e p fun ρ1 H1 S1 v d s1 e1 x1 v1 p1 => ?_
    refine Em_bind s1 e1 p1 fun ρ2 H2 S2 w d2 s2 e2 x2 v2 p2 => ?_
    refine hs _ ρ2 S2 H2 v w d d2 _ s2 (v1.mono x2) v2 (Post.bind p2 fun ρ3 H3 S3 z dz x3 s3 v3 p3 => ?_)
    cases v3 with
    | bl k =>
      refine ⟨k, rfl, ?_⟩
      cases k with
      | true =>
        simp only [asB, R.bind_ok, if_true] at p3 ⊢
        exact Em_bind s3 (e2.mono x3) p3 fun ρ4 H4 S4 u d4 s4 e4 x4 v4 p4 => hs' _ ρ4 S4 H4 w u d2 d4 Q s4 ((v2.mono x3).mono x4) v4 p4
      | false =>
        simp only [asB, R.bind_ok] at p3 ⊢
        rw [if_neg (by decide)] at p3 ⊢
        exact p3.here s3 (.bl false)
    | _ => exact (show False from p3).elim

/-! ### truth -/
def ofO {A : Type} (o : Option A) (S : Sto) : R A := match o with | some a => .ok a S | none => .bad
@[simp] theorem ofO_some {A : Type} (a : A) (S : Sto) : ofO (some a) S = .ok a S := rfl
@[simp] theorem ofO_none {A : Type} (S : Sto) : ofO (none : Option A) S = .bad := rfl
def truP : D → Sto → Option Bool
  | .non, _ => some false
  | .bl b, _ => some b
  | .int i, _ => some (i != 0)
  | .str x, _ => if x.length ≤ sizeLine then some ((x.length : Int) != 0) else none
  | .tup ds, _ => some (!ds.isEmpty)
  | .lst ds, _ => some (!ds.isEmpty)
  | .scr ds, _ => some (!ds.isEmpty)
  | .dct ks _, _ => some (!ks.isEmpty)
  | .loc l, S => match S[l]? with
    | some (.lst ds) => some (!ds.isEmpty)
    | some (.dK false kvs) => some (!kvs.isEmpty)
    | _ => none
  | .ob _, _ => none
def tru (d : D) (S : Sto) : R Bool := ofO (truP d S) S
theorem isEmpty_len {α β : Type} {l : List α} {m : List β} (h : l.length = m.length) : l.isEmpty = m.isEmpty := by
  cases l <;> cases m <;> first | rfl | simp at h
theorem truP_of {K : PySem.W.Frag} {ρ : Pl} {H : Hp} {S : Sto} {v : V} {d : D} {k : Bool} (s : SR K ρ S H) (r : VR K ρ H v d) (h : truP d S = some k) : TruV K v H k := by
  cases r with
  | non => exact (Option.some.inj h).symm
  | bl b => exact (Option.some.inj h).symm
  | int b => exact (Option.some.inj h).symm
  | str x =>
    simp only [truP] at h
    split at h
    · exact ⟨by assumption, (Option.some.inj h).symm⟩
    · cases h
  | tup ht hs =>
    obtain ⟨a, xs, e, h1, h2⟩ := tup_of (VR.tup ht hs)
    rw [e]
    exact .inr (.inl ⟨xs, h1, by rw [isEmpty_len h2.length]; exact (Option.some.inj h).symm⟩)
  | lst h1 h2 hs => exact .inl ⟨_, SqL.of h1, by rw [isEmpty_len hs.length]; exact (Option.some.inj h).symm⟩
  | scr h1 hs =>
    obtain ⟨a, xs, e, h1, h2⟩ := listR_of s (VR.scr h1 hs) rfl
    rw [e]
    exact .inl ⟨_, h1, by rw [isEmpty_len h2.length]; exact (Option.some.inj h).symm⟩
  | dct h1 h2 hk hs => exact .inr (.inr ⟨_, h1, by rw [← hk] at h; rw [← isEmpty_len (List.length_map (·.1))]; exact (Option.some.inj h).symm⟩)
  | @loc a l hl =>
    simp only [truP] at h
    split at h
    · rename_i ds e
      obtain ⟨xs, h1, h2⟩ := s.at hl e
      exact .inl ⟨xs, SqL.of h1, by rw [isEmpty_len h2.length]; exact (Option.some.inj h).symm⟩
    · rename_i kvs e
      obtain ⟨ws, h1, h2⟩ := s.at hl e
      exact .inr (.inr ⟨ws, h1, by rw [isEmpty_len h2.length]; exact (Option.some.inj h).symm⟩)
    · cases h
  | ob v => cases h
theorem ofO_bind {K : PySem.W.Frag} {Wk : XK} {ρ : Pl} {H : Hp} {S : Sto} {A B C : Type} {o : Option A} {f : A → Sto → R B} {rel : Pl → Hp → C → B → Prop} {Q : C → Hp → Prop} (h : Post K Wk ρ H ((ofO o S).bind f) rel Q) : ∃ a, o = some a ∧ Post K Wk ρ H (f a S) rel Q := by
  cases o with
  | some a => exact ⟨a, rfl, h⟩
  | none => exact h.elim
theorem ofO_post {K : PySem.W.Frag} {Wk : XK} {ρ : Pl} {H : Hp} {S : Sto} {A C : Type} {o : Option A} {rel : Pl → Hp → C → A → Prop} {Q : C → Hp → Prop} (h : Post K Wk ρ H (ofO o S) rel Q) : ∃ a, o = some a ∧ Post K Wk ρ H (.ok a S) rel Q := by
  cases o with
  | some a => exact ⟨a, rfl, h⟩
  | none => exact h.elim
theorem tru_post {K : PySem.W.Frag} {Wk : XK} {ρ : Pl} {H : Hp} {S : Sto} {v : V} {d : D} {Q : Bool → Hp → Prop} (s : SR K ρ S H) (r : VR K ρ H v d) (h : Post K Wk ρ H (tru d S) relB Q) : ∃ k, TruV K v H k ∧ Q k H := by
  obtain ⟨k, e, p⟩ := ofO_post h
  exact ⟨k, truP_of s r e, p.here s rfl⟩
def mT (m : ME) : MT := fun τ S => (m τ S).bind tru
theorem t_tru (ha : PE X a (Em X.K W ma)) (he : ∀ whole, isTrue a X.env whole = (do let v ← whole; standAt a.pos; holding [v] (truthy v)) := by intro _; rfl) : PT X a (Tm X.K W (mT ma)) := PT_imp (pt_truth ha he) fun σ H Q h => by
  obtain ⟨ρ, τ, S, s, e, p⟩ := h
  exact Em_bind s e p fun ρ1 H1 S1 v d s1 e1 x1 v1 p1 => tru_post s1 v1 p1
def mAnd (a b : MT) : MT := fun τ S => (a τ S).bind fun k S1 => if k = true then b τ S1 else .ok false S1
def mOr (a b : MT) : MT := fun τ S => (a τ S).bind fun k S1 => if k = true then .ok true S1 else b τ S1
def mNot (a : MT) : MT := fun τ S => (a τ S).bind fun k S1 => .ok (!k) S1
variable {ta tb : MT} {rest : List Expr}
theorem w_and1 (ha : PT X a (Tm X.K W ta)) : PW X (.BoolOp .And [a] pos) (Tm X.K W ta) := pw_and1 ha
theorem w_or1 (ha : PT X a (Tm X.K W ta)) : PW X (.BoolOp .Or [a] pos) (Tm X.K W ta) := pw_or1 ha
theorem w_and (ha : PT X a (Tm X.K W ta)) (hb : PW X (.BoolOp .And (b :: rest) pos) (Tm X.K W tb)) : PW X (.BoolOp .And (a :: b :: rest) pos) (Tm X.K W (mAnd ta tb)) := PW_imp (pw_and ha hb) fun σ H Q h => by
  obtain ⟨ρ, τ, S, s, e, p⟩ := h
  refine Tm_bind s e p fun ρ1 H1 S1 k s1 e1 x1 p1 => ?_
  cases k with
  | true => exact iteT ⟨ρ1, τ, S1, s1, e1, p1⟩
  | false => exact iteF (p1.here s1 rfl)
theorem w_or (ha : PT X a (Tm X.K W ta)) (hb : PW X (.BoolOp .Or (b :: rest) pos) (Tm X.K W tb)) : PW X (.BoolOp .Or (a :: b :: rest) pos) (Tm X.K W (mOr ta tb)) := PW_imp (pw_or ha hb) fun σ H Q h => by
  obtain ⟨ρ, τ, S, s, e, p⟩ := h
  refine Tm_bind s e p fun ρ1 H1 S1 k s1 e1 x1 p1 => ?_
  cases k with
  | true => exact iteT (p1.here s1 rfl)
  | false => exact iteF ⟨ρ1, τ, S1, s1, e1, p1⟩
theorem t_not (ha : PT X a (Tm X.K W ta)) : PT X (.UnaryOp .Not a pos) (Tm X.K W (mNot ta)) := PT_imp (pt_not ha) fun σ H Q h => by
  obtain ⟨ρ, τ, S, s, e, p⟩ := h
  exact Tm_bind s e p fun ρ1 H1 S1 k s1 e1 x1 p1 => p1.here s1 rfl
/-- and, or, not as things -/
def mAndV (a b : ME) : ME := fun τ S => (a τ S).bind fun x S1 => (tru x S1).bind fun k S2 => if k = true then b τ S2 else .ok x S2
def mOrV (a b : ME) : ME := fun τ S => (a τ S).bind fun x S1 => (tru x S1).bind fun k S2 => if k = true then .ok x S2 else b τ S2
def mNotV (a : ME) : ME := fun τ S => (a τ S).bind fun x S1 => (tru x S1).bind fun k S2 => .ok (.bl (!k)) S2
theorem v_and1 (ha : PE X a (Em X.K W ma)) {op} : PE X (.BoolOp op [a] pos) (Em X.K W ma) := pe_one ha
variable {mr : ME}
theorem v_and (ha : PE X a (Em X.K W ma)) (hb : PE X (.BoolOp .And (b :: rest) pos) (Em X.K W mr)) : PE X (.BoolOp .And (a :: b :: rest) pos) (Em X.K W (mAndV ma mr)) := PE_imp (pe_andT ha hb) fun σ H Q h => by
  obtain ⟨ρ, τ, S, s, e, p⟩ := h
  refine Em_bind s e p fun ρ1 H1 S1 v d s1 e1 x1 v1 p1 => ?_
  obtain ⟨k, ek, p2⟩ := ofO_bind p1
  refine ⟨k, truP_of s1 v1 ek, ?_⟩
  cases k with
  | true => exact iteT ⟨ρ1, τ, S1, s1, e1, p2⟩
  | false => exact iteF (p2.here s1 v1)
theorem v_or (ha : PE X a (Em X.K W ma)) (hb : PE X (.BoolOp .Or (b :: rest) pos) (Em X.K W mr)) : PE X (.BoolOp .Or (a :: b :: rest) pos) (Em X.K W (mOrV ma mr)) := PE_imp (pe_orT ha hb) fun σ H Q h => by
  obtain ⟨ρ, τ, S, s, e, p⟩ := h
  refine Em_bind s e p fun ρ1 H1 S1 v d s1 e1 x1 v1 p1 => ?_
  obtain ⟨k, ek, p2⟩ := ofO_bind p1
  refine ⟨k, truP_of s1 v1 ek, ?_⟩
  cases k with
  | true => exact iteT (p2.here s1 v1)
  | false => exact iteF ⟨ρ1, τ, S1, s1, e1, p2⟩
theorem v_not (ha : PE X a (Em X.K W ma)) : PE X (.UnaryOp .Not a pos) (Em X.K W (mNotV ma)) := PE_imp (pe_notT ha) fun σ H Q h => by
  obtain ⟨ρ, τ, S, s, e, p⟩ := h
  refine Em_bind s e p fun ρ1 H1 S1 v d s1 e1 x1 v1 p1 => ?_
  obtain ⟨k, ek, p2⟩ := ofO_bind p1
  exact ⟨k, truP_of s1 v1 ek, p2.here s1 (.bl _)⟩
/-- a if t else b -/
def mIf (t : MT) (a b : ME) : ME := fun τ S => (t τ S).bind fun k S1 => if k = true then a τ S1 else b τ S1
theorem z_if (hc : PT X c (Tm X.K W ta)) (ha : PE X a (Em X.K W ma)) (hb : PE X b (Em X.K W mb)) : PE X (.IfExp c a b pos) (Em X.K W (mIf ta ma mb)) := PE_imp (pe_ifExp hc ha hb) fun σ H Q h => by
  obtain ⟨ρ, τ, S, s, e, p⟩ := h
  refine Tm_bind s e p fun ρ1 H1 S1 k s1 e1 x1 p1 => ?_
  cases k with
  | true => exact iteT ⟨ρ1, τ, S1, s1, e1, p1⟩
  | false => exact iteF ⟨ρ1, τ, S1, s1, e1, p1⟩
/-- -x -/
def dNeg : D → Sto → R D
  | .int i, S => .ok (.int (-i)) S
  | _, _ => .bad
def mUn (f : D → Sto → R D) (a : ME) : ME := fun τ S => (a τ S).bind f
theorem z_neg (ha : PE X a (Em X.K W ma)) : PE X (.UnaryOp .USub a pos) (Em X.K W (mUn dNeg ma)) := PE_imp (pe_un un_neg ha) fun σ H Q h => by
  obtain ⟨ρ, τ, S, s, e, p⟩ := h
  refine Em_bind s e p fun ρ1 H1 S1 v d s1 e1 x1 v1 p1 => ?_
  unfold dNeg at p1
  split at p1
  · cases v1
    exact ⟨_, rfl, p1.here s1 (.int _)⟩
  · exact p1.elim
/-! ### arguments, displays -/
def aNil : MA := fun _ S => .ok [] S
def aCons (a : ME) (r : MA) : MA := fun τ S => (a τ S).bind fun x S1 => (r τ S1).bind fun xs S2 => .ok (x :: xs) S2
variable {es : List Expr} {mas : MA}
theorem a_nil : PA X [] (Am X.K W aNil) := PA_imp pa_nil fun σ H Q ⟨ρ, τ, S, s, e, p⟩ => p.here s .nil
theorem a_cons (ha : PE X a (Em X.K W ma)) (hr : PA X es (Am X.K W mas)) (hs : starEach (a :: es) X.env = (false, eval a X.env) :: starEach es X.env := by rfl) : PA X (a :: es) (Am X.K W (aCons ma mas)) := PA_imp (pa_cons ha hr hs) fun σ H Q h => by
  obtain ⟨ρ, τ, S, s, e, p⟩ := h
  refine Em_bind s e p fun ρ1 H1 S1 v d s1 e1 x1 v1 p1 => ?_
  exact Am_bind s1 e1 p1 fun ρ2 H2 S2 vs ds s2 e2 x2 v2 p2 => p2.here s2 (.cons (v1.mono x2) v2)
def mTup (r : MA) : ME := fun τ S => (r τ S).bind fun xs S1 => guardR (xs.length ≤ sizeLine) (.ok (.tup xs) S1)
def mLst (r : MA) : ME := fun τ S => (r τ S).bind fun xs S1 => guardR (xs.length ≤ sizeLine) (.ok (.lst xs) S1)
/-- a list that will be changed -/
def mLstN (r : MA) : ME := fun τ S => (r τ S).bind fun xs S1 => guardR (xs.length ≤ sizeLine) (.ok (.loc S1.length) (S1 ++ [.lst xs]))
theorem z_tup {x1} (ha : PA X es (Am X.K W mas)) : PE X (.Tuple es x1 pos) (Em X.K W (mTup mas)) := PE_imp (pe_tup ha) fun σ H Q h => by
  obtain ⟨ρ, τ, S, s, e, p⟩ := h
  refine Am_bind s e p fun ρ1 H1 S1 vs ds s1 e1 x1 v1 p1 => ?_
  obtain ⟨hz, p2⟩ := guardR_post p1
  exact ⟨by rw [v1.length]; exact hz, p2.newTup s1 v1⟩
theorem z_lst (ha : PA X es (Am X.K W mas)) : PE X (.List es pos) (Em X.K W (mLst mas)) := PE_imp (pe_lst ha) fun σ H Q h => by
  obtain ⟨ρ, τ, S, s, e, p⟩ := h
  refine Am_bind s e p fun ρ1 H1 S1 vs ds s1 e1 x1 v1 p1 => ?_
  obtain ⟨hz, p2⟩ := guardR_post p1
  exact ⟨by rw [v1.length]; exact hz, p2.newLst s1 v1⟩
theorem Post.newLoc {K : PySem.W.Frag} {Wk : XK} {ρ : Pl} {H : Hp} {S : Sto} {Q : VK} {ds : List D} (h : Post K Wk ρ H (.ok (.loc S.length) (S ++ [.lst ds])) (VR K) Q) (s : SR K ρ S H) {xs : List V} (r : VRs K ρ H xs ds) : ∀ p, H p = none → Q (.ref p) (upd H p (.lst xs)) := fun p hp =>
  h (ρ.push p) _ _ (Ext.push hp) (s.push hp ⟨xs, upd_same, r.mono (Ext.push hp)⟩) (.loc (Pl.push_get s))
theorem z_lstN (ha : PA X es (Am X.K W mas)) : PE X (.List es pos) (Em X.K W (mLstN mas)) := PE_imp (pe_lst ha) fun σ H Q h => by
  obtain ⟨ρ, τ, S, s, e, p⟩ := h
  refine Am_bind s e p fun ρ1 H1 S1 vs ds s1 e1 x1 v1 p1 => ?_
  obtain ⟨hz, p2⟩ := guardR_post p1
  exact ⟨by rw [v1.length]; exact hz, p2.newLoc s1 v1⟩

/-! ### calls -/
/-- a built-in by what it does of its arguments -/
def CallS (K : PySem.W.Frag) (f : List D → Sto → R D) (r : List V → Hp → VK → Prop) : Prop := ∀ (Wk : XK) (ρ : Pl) (S : Sto) (H : Hp) (vs : List V) (ds : List D) (Q : VK), SR K ρ S H → VRs K ρ H vs ds → Post K Wk ρ H (f ds S) (VR K) Q → r vs H Q
def mCall (f : List D → Sto → R D) (r : MA) : ME := fun τ S => (r τ S).bind f
theorem Em_call {K : PySem.W.Frag} {f : List D → Sto → R D} {r : List V → Hp → VK → Prop} (hs : CallS K f r) {σ : St} {H : Hp} {Q : VK} (h : Em K W (mCall f mas) σ H Q) : tCB r (Am K W mas) σ H Q := by
  obtain ⟨ρ, τ, S, s, e, p⟩ := h
  exact Am_bind s e p fun ρ1 H1 S1 vs ds s1 e1 x1 v1 p1 => hs _ ρ1 S1 H1 vs ds Q s1 v1 p1
variable {x : Str} {p : Pos} {id T : String} {r : List V → Hp → VK → Prop} {f : List D → Sto → R D}
theorem z_blt (hm : X.mg x = none) (hc : CallR X (.builtin id) r) (hs : CallS X.K f r) (hv : bootBuiltins x = some (.builtin id)) (ha : PA X (e :: es) (Am X.K W mas)) (hg : Gl X x := by rfl) (hn : x ≠ "__name__" := by decide) (hdb : (x == ("__debug__" : Str)) = false := by decide)
    (he : starEach (e :: es) X.env = (false, eval e X.env) :: starEach es X.env := by rfl) (hpl : (backTo pos (starEach es X.env)).any (·.1) = false := by rfl) : PE X (.Call (.Name x p) (e :: es) [] pos) (Em X.K W (mCall f mas)) :=
  PE_imp (pe_callB hc hg hm hv ha hn hdb he hpl) fun σ H Q h => Em_call hs h
theorem z_typ (hm : X.mg x = none) (hc : CallR X (.type T) r) (hs : CallS X.K f r) (hv : bootBuiltins x = some (.type T)) (ha : PA X (e :: es) (Am X.K W mas)) (hg : Gl X x := by rfl) (hn : x ≠ "__name__" := by decide) (hdb : (x == ("__debug__" : Str)) = false := by decide)
    (he : starEach (e :: es) X.env = (false, eval e X.env) :: starEach es X.env := by rfl) (hpl : (backTo pos (starEach es X.env)).any (·.1) = false := by rfl) : PE X (.Call (.Name x p) (e :: es) [] pos) (Em X.K W (mCall f mas)) :=
  PE_imp (pe_callTy hc hg hm hv ha hn hdb he hpl) fun σ H Q h => Em_call hs h
/-- a def's promise: it does what f says -/
def Sf (K : PySem.W.Frag) (f : List D → Sto → R D) : Sp := fun vs H Q E => ∃ ρ S ds, SR K ρ S H ∧ VRs K ρ H vs ds ∧ Post K E ρ H (f ds S) (VR K) Q
/-- a def that keeps its promise wherever it is called with room and no repr under way -/
structure FnG (P : Program) (w : World) (K : PySem.W.Frag) (mg : Str → Option Value) (base : Heap) (k : Nat) (g : Addr) (fd : FuncData) (ps : List Str) (f : List D → Sto → R D) : Prop where
  len : ∀ (ds : List D) (S : Sto), f ds S ≠ .bad → ds.length = ps.length
  run : ∀ (A : Around) (frs : List Env) (st : Shared) (H : Hp) (ar : Args) (us : List Value) (vs : List V) (Q : VK) (E : XK), Room k A → A.guards = some [] → Env0 P w K mg base A frs st H →
    BindsTo st fd ar (ps.zip us) → Vals vs us → Sf K f vs H Q E → codeAny (model P w) A (.call (.ref g) ar) (L2.CR (L2.CX P w) frs P w H st Q E) st
theorem Post.nbad {K : PySem.W.Frag} {Wk : XK} {ρ : Pl} {H : Hp} {A B : Type} {o : R A} {rel : Pl → Hp → B → A → Prop} {Q : B → Hp → Prop} (h : Post K Wk ρ H o rel Q) : o ≠ .bad := by
  rintro rfl; exact h.elim
theorem FnG.lenV {P : Program} {w : World} {K : PySem.W.Frag} {mg : Str → Option Value} {base : Heap} {k : Nat} {g : Addr} {fd : FuncData} {ps : List Str} (F : FnG P w K mg base k g fd ps f) {vs : List V} {H : Hp} {Q : VK} {E : XK} (h : Sf K f vs H Q E) : vs.length = ps.length := by
  obtain ⟨ρ, S, ds, s, v, p⟩ := h
  rw [v.length]; exact F.len ds S p.nbad
/-- the def at g is run on arguments in hand -/
theorem run_G {pins : List (Addr × Obj)} {st : Shared} {σ : St} {H : Hp} {Q : VK} {us : List Value} {vs : List V} {k : Nat} {g : Addr} {fd : FuncData} {ps : List Str} (F : FnG X.prog X.w X.K X.mg X.base k g fd ps f) (hr : Room k X.A) (hgd : X.A.guards = some []) (hb : Binds X.K fd ps [])
    (hx : ∀ σ, PassesAt (L2.CX X.prog X.w) X σ (fun c d H => W c d σ H)) (I : Inv X pins σ H st) (r : Vals vs us) (h : Sf X.K f vs H Q (fun c d H => W c d σ H)) : wpAny (model X.prog X.w) X.A (call (.ref g) us) (EP X pins σ Q) X.xe st := by
  have hl : (us ++ []).length = ps.length := by rw [List.append_nil, ← r.length]; exact F.lenV h
  have hb' := hb st us I.kIn hl
  rw [List.append_nil] at hb'
  have main := F.run X.A X.stack st H _ us vs Q _ hr hgd I.env0 hb' r h
  refine wpAny_call (codeAny_mono main ?_)
  intro res st' q
  match res, q with
  | .error e, q => exact hx σ pins H st e st' I q
  | .ok (.ret u), q => exact I.after q
  | .ok .next, q => exact False.elim q
  | .ok .brk, q => exact False.elim q
  | .ok .cont, q => exact False.elim q
theorem z_call {k : Nat} {g : Addr} {fd : FuncData} {ps : List Str} (F : FnG X.prog X.w X.K X.mg X.base k g fd ps f) (hr : Room k X.A) (hgd : X.A.guards = some []) (hm : X.mg x = some (.ref g)) (hk : PySem.W.keepIn X.K (.ref g) = true) (hb : Binds X.K fd ps [])
    (hx : ∀ σ, PassesAt (L2.CX X.prog X.w) X σ (fun c d H => W c d σ H)) (ha : PA X (e :: es) (Am X.K W mas)) (hg : Gl X x := by rfl) (hdb : (x == ("__debug__" : Str)) = false := by decide)
    (he : starEach (e :: es) X.env = (false, eval e X.env) :: starEach es X.env := by rfl) (hpl : (backTo pos (starEach es X.env)).any (·.1) = false := by rfl) : PE X (.Call (.Name x p) (e :: es) [] pos) (Em X.K W (mCall f mas)) := by
  constructor
  intro pins st σ H Q I h
  obtain ⟨ρ, τ, S, s, er, po⟩ := h
  have args := ha.run pos pins st σ H (fun vs H1 => Sf X.K f vs H1 Q (fun c d H => W c d σ H)) I (Am_bind s er po fun ρ1 H1 S1 vs ds s1 e1 x1 v1 p1 => ⟨ρ1, S1, ds, s1, v1, p1⟩)
  apply wpAny_Call_Name_kw
  apply ld_glob I hg hm _ hdb
  apply PySem.W.callWith_K (h₀ := X.base) I.ok.mod.kin hk _ he hpl
  apply thn args
  rintro us s1 ⟨vs, H1, I1, r, q⟩
  exact ⟨I1.kIn, run_G F hr hgd hb hx I1 r q⟩
/-- nothing is let out where nothing is let out -/
theorem no_out : ∀ σ, PassesAt (L2.CX X.prog X.w) X σ (fun _ _ _ => False) := fun σ _ _ _ _ _ _ h => by
  obtain ⟨_, _, _, _, _, _, _, _, _, _, _, _, z⟩ := h
  exact z.elim
end
/-! ### a def by its body -/
inductive RS where
  | nx (τ : Tau) (S : Sto) | rt (d : D) (S : Sto) | bk (τ : Tau) (S : Sto) | ct (τ : Tau) (S : Sto) | ex (τ : Tau) (c : Addr) (fs : List (Str × D)) (S : Sto) | bad
abbrev MS := Tau → Sto → RS
def PostS (K : PySem.W.Frag) (W : WX) (ρ : Pl) (H : Hp) (σ : St) (o : RS) (D : Ends) : Prop := match o with
  | .nx τ' S' => ∀ ρ' σ' H', Ext ρ H ρ' H' → SR K ρ' S' H' → ER K ρ' H' τ' σ' → D.nx σ' H'
  | .bk τ' S' => ∀ ρ' σ' H', Ext ρ H ρ' H' → SR K ρ' S' H' → ER K ρ' H' τ' σ' → D.bk σ' H'
  | .ct τ' S' => ∀ ρ' σ' H', Ext ρ H ρ' H' → SR K ρ' S' H' → ER K ρ' H' τ' σ' → D.ct σ' H'
  | .rt d S' => ∀ ρ' H' v, Ext ρ H ρ' H' → SR K ρ' S' H' → VR K ρ' H' v d → D.rt v H'
  | .ex τ' c fs S' => ∀ ρ' σ' H' dd, Ext ρ H ρ' H' → SR K ρ' S' H' → ER K ρ' H' τ' σ' → XD K ρ' H' dd fs → W (.ref c) dd σ' H'
  | .bad => False
def Sm (K : PySem.W.Frag) (W : WX) (m : MS) : TS := fun D σ H => ∃ ρ τ S, SR K ρ S H ∧ ER K ρ H τ σ ∧ PostS K W ρ H σ (m τ S) D
end Z

/-! Z3: statements, targets, loops, comprehensions, what is walked. -/
namespace Z
open PySem L2

theorem PostS.ext {K : PySem.W.Frag} {W : WX} {ρ ρ1 : Pl} {H H1 : Hp} {σ σ1 : St} {o : RS} {D : Ends} (e : Ext ρ H ρ1 H1) (h : PostS K W ρ H σ o D) : PostS K W ρ1 H1 σ1 o D := by
  cases o with
  | nx τ S => exact fun r2 s2 H2 e2 => h r2 s2 H2 (e.trans e2)
  | bk τ S => exact fun r2 s2 H2 e2 => h r2 s2 H2 (e.trans e2)
  | ct τ S => exact fun r2 s2 H2 e2 => h r2 s2 H2 (e.trans e2)
  | rt d S => exact fun r2 H2 v e2 => h r2 H2 v (e.trans e2)
  | ex τ c fs S => exact fun r2 s2 H2 dd e2 => h r2 s2 H2 dd (e.trans e2)
  | bad => exact h
def liftS {A : Type} (o : R A) (τ : Tau) (k : A → Sto → RS) : RS := match o with
  | .ok a S => k a S
  | .ex c fs S => .ex τ c fs S
  | .bad => .bad
@[simp] theorem liftS_ok {A : Type} (a : A) (S : Sto) (τ : Tau) (k : A → Sto → RS) : liftS (.ok a S) τ k = k a S := rfl
@[simp] theorem liftS_ex {A : Type} (c fs) (S : Sto) (τ : Tau) (k : A → Sto → RS) : liftS (.ex c fs S) τ k = .ex τ c fs S := rfl
@[simp] theorem liftS_bad {A : Type} (τ : Tau) (k : A → Sto → RS) : liftS (.bad) τ k = .bad := rfl
section
variable {K : PySem.W.Frag} {W : WX} {σ : St} {H : Hp} {ρ : Pl} {τ : Tau} {S : Sto} {D : Ends}
theorem liftS_post {A B : Type} {o : R A} {k : A → Sto → RS} {rel : Pl → Hp → B → A → Prop} {Q1 : B → Hp → Prop} (r : ER K ρ H τ σ) (h : PostS K W ρ H σ (liftS o τ k) D)
    (kk : ∀ ρ1 H1 S1 v d, SR K ρ1 S1 H1 → ER K ρ1 H1 τ σ → Ext ρ H ρ1 H1 → rel ρ1 H1 v d → PostS K W ρ1 H1 σ (k d S1) D → Q1 v H1) : Post K (fun c d H' => W c d σ H') ρ H o rel Q1 := by
  cases o with
  | ok d S' => exact fun r2 H2 v e2 s2 v2 => kk r2 H2 S' v d s2 (r.mono e2) e2 v2 (PostS.ext e2 h)
  | ex c fs S' => exact fun r2 H2 dd e2 s2 x2 => h r2 σ H2 dd e2 s2 (r.mono e2) x2
  | bad => exact h
theorem Em_S {m : ME} {k : V → Sto → RS} {kd : Z.D → Sto → RS} {Q1 : VK} (s : SR K ρ S H) (r : ER K ρ H τ σ) (h : PostS K W ρ H σ (liftS (m τ S) τ kd) D)
    (kk : ∀ ρ1 H1 S1 v d, SR K ρ1 S1 H1 → ER K ρ1 H1 τ σ → Ext ρ H ρ1 H1 → VR K ρ1 H1 v d → PostS K W ρ1 H1 σ (kd d S1) D → Q1 v H1) : Em K W m σ H Q1 := ⟨ρ, τ, S, s, r, liftS_post r h kk⟩
theorem Tm_S {m : MT} {kd : Bool → Sto → RS} {Q1 : Bool → Hp → Prop} (s : SR K ρ S H) (r : ER K ρ H τ σ) (h : PostS K W ρ H σ (liftS (m τ S) τ kd) D)
    (kk : ∀ ρ1 H1 S1 b, SR K ρ1 S1 H1 → ER K ρ1 H1 τ σ → Ext ρ H ρ1 H1 → PostS K W ρ1 H1 σ (kd b S1) D → Q1 b H1) : Tm K W m σ H Q1 := ⟨ρ, τ, S, s, r, liftS_post r h fun ρ1 H1 S1 v d s1 r1 e1 v1 p1 => by
      have v1' : v = d := v1
      subst v1'; exact kk ρ1 H1 S1 v s1 r1 e1 p1⟩
theorem Am_S {m : MA} {kd : List Z.D → Sto → RS} {Q1 : List V → Hp → Prop} (s : SR K ρ S H) (r : ER K ρ H τ σ) (h : PostS K W ρ H σ (liftS (m τ S) τ kd) D)
    (kk : ∀ ρ1 H1 S1 v d, SR K ρ1 S1 H1 → ER K ρ1 H1 τ σ → Ext ρ H ρ1 H1 → VRs K ρ1 H1 v d → PostS K W ρ1 H1 σ (kd d S1) D → Q1 v H1) : Am K W m σ H Q1 := ⟨ρ, τ, S, s, r, liftS_post r h kk⟩
theorem PostS.here (h : PostS K W ρ H σ (.nx τ S) D) (s : SR K ρ S H) {σ' : St} (r : ER K ρ H τ σ') : D.nx σ' H := h ρ σ' H Ext.refl s r
theorem ER.set {v : V} {d : Z.D} (r : ER K ρ H τ σ) (i : Nat) (h : VR K ρ H v d) : ER K ρ H (τ.set i (some d)) (σ.set i (some v)) := by
  refine ⟨by simp [r.1], fun j e hj => ?_⟩
  by_cases hi : j = i
  · subst hi
    have hl : j < τ.length := by
      have := (List.getElem?_eq_some_iff.mp hj).1
      simpa using this
    rw [List.getElem?_set_self hl] at hj
    cases hj
    refine ⟨v, ?_, h⟩
    rw [List.getElem?_set_self (by rw [← r.1]; exact hl)]
  · rw [List.getElem?_set_ne (Ne.symm hi)] at hj
    obtain ⟨w, h1, h2⟩ := r.2 j e hj
    exact ⟨w, by rw [List.getElem?_set_ne (Ne.symm hi)]; exact h1, h2⟩
end

/-! ### small statements -/
def sNil : MS := fun τ S => .nx τ S
def sSeq (a b : MS) : MS := fun τ S => match a τ S with
  | .nx τ' S' => b τ' S'
  | o => o
def sExpr (m : ME) : MS := fun τ S => liftS (m τ S) τ fun _ S1 => .nx τ S1
def sRet (m : ME) : MS := fun τ S => liftS (m τ S) τ fun d S1 => .rt d S1
def sRetN : MS := fun _ S => .rt .non S
def sIf (t : MT) (a b : MS) : MS := fun τ S => liftS (t τ S) τ fun k S1 => if k = true then a τ S1 else b τ S1
def sAsg (i : Nat) (m : ME) : MS := fun τ S => liftS (m τ S) τ fun d S1 => .nx (τ.set i (some d)) S1
def sBad : MS := fun _ _ => .bad
def sBk : MS := fun τ S => .bk τ S
def sCt : MS := fun τ S => .ct τ S
section
variable {X : Cx} {W : WX} {st : Stmt} {rest body : List Stmt} {m n : MS} {e : Expr} {me : ME} {t : MT} {pos : Pos}
theorem ss_nil : PSs X [] (Sm X.K W sNil) := PSs_imp pss_nil fun D σ H ⟨ρ, τ, S, s, r, p⟩ => p.here s r
theorem ss_cons (h1 : PS X st (Sm X.K W m)) (h2 : PSs X rest (Sm X.K W n)) : PSs X (st :: rest) (Sm X.K W (sSeq m n)) := PSs_imp (pss_cons h1 h2) fun D σ H ⟨ρ, τ, S, s, r, p⟩ => by
  refine ⟨ρ, τ, S, s, r, ?_⟩
  unfold sSeq at p
  cases q : m τ S with
  | nx τ' S' =>
    rw [q] at p
    exact fun ρ' σ' H' e' s' r' => ⟨ρ', τ', S', s', r', PostS.ext e' p⟩
  | _ => rw [q] at p; exact p
theorem ss_one (h1 : PS X st (Sm X.K W m)) : PSs X [st] (Sm X.K W m) := pss_one h1
theorem s_pass : PS X (.Pass pos) (Sm X.K W sNil) := PS_imp ps_pass fun D σ H ⟨ρ, τ, S, s, r, p⟩ => p.here s r
theorem s_break : PS X (.Break pos) (Sm X.K W sBk) := PS_imp ps_break fun D σ H ⟨ρ, τ, S, s, r, p⟩ => p ρ σ H Ext.refl s r
theorem s_cont : PS X (.Continue pos) (Sm X.K W sCt) := PS_imp ps_continue fun D σ H ⟨ρ, τ, S, s, r, p⟩ => p ρ σ H Ext.refl s r
theorem s_bad : PS X st (Sm X.K W sBad) := PS_imp ps_never fun D σ H ⟨ρ, τ, S, s, r, p⟩ => p.elim
theorem s_expr (he : PE X e (Em X.K W me)) (hs : swapsWith e none pos.line X.env = pure false := by rfl) : PS X (.Expr e pos) (Sm X.K W (sExpr me)) := PS_imp (ps_expr he hs) fun D σ H ⟨ρ, τ, S, s, r, p⟩ =>
  Em_S (k := fun _ _ => .bad) s r p fun ρ1 H1 S1 v d s1 r1 e1 v1 p1 => p1.here s1 r1
theorem s_ret (he : PE X e (Em X.K W me)) : PS X (.Return (some e) pos) (Sm X.K W (sRet me)) := PS_imp (ps_ret he) fun D σ H ⟨ρ, τ, S, s, r, p⟩ =>
  Em_S (k := fun _ _ => .bad) s r p fun ρ1 H1 S1 v d s1 r1 e1 v1 p1 => p1 ρ1 H1 v Ext.refl s1 v1
theorem s_retN : PS X (.Return none pos) (Sm X.K W sRetN) := PS_imp ps_retN fun D σ H ⟨ρ, τ, S, s, r, p⟩ => p ρ H .non Ext.refl s .non
theorem s_if {c : Expr} {a b : List Stmt} (hc : PT X c (Tm X.K W t)) (ha : PSs X a (Sm X.K W m)) (hb : PSs X b (Sm X.K W n)) : PS X (.If c a b pos) (Sm X.K W (sIf t m n)) := PS_imp (ps_if hc ha hb) fun D σ H ⟨ρ, τ, S, s, r, p⟩ =>
  Tm_S s r p fun ρ1 H1 S1 k s1 r1 e1 p1 => by
    cases k with
    | true => exact iteT ⟨ρ1, τ, S1, s1, r1, p1⟩
    | false => exact iteF ⟨ρ1, τ, S1, s1, r1, p1⟩
theorem s_set0 {i : Nat} {x : Str} {pos' : Pos} (he : PE X e (Em X.K W me)) (h : PS X (.Assign [.Name x pos'] e pos) (tAsg (Em X.K W me) (gName i))) : PS X (.Assign [.Name x pos'] e pos) (Sm X.K W (sAsg i me)) := PS_imp h fun D σ H ⟨ρ, τ, S, s, r, p⟩ =>
  Em_S (k := fun _ _ => .bad) s r p fun ρ1 H1 S1 v d s1 r1 e1 v1 p1 => p1.here s1 (r1.set i v1)
end

/-! ### targets of names -/
inductive Tgt where | nm (i : Nat) | tp (is : List Nat)
def setAll : List Nat → List D → Tau → Option Tau
  | [], [], τ => some τ
  | i :: is, d :: ds, τ => setAll is ds (τ.set i (some d))
  | _, _, _ => none
def bindT : Tgt → D → Tau → Option Tau
  | .nm i, d, τ => some (τ.set i (some d))
  | .tp is, .tup ds, τ => setAll is ds τ
  | .tp _, _, _ => none
def gNames : List Nat → TGs
  | [] => gNil
  | i :: is => gCons (gName i) (gNames is)
def tgOf (K : PySem.W.Frag) : Tgt → TG
  | .nm i => gName i
  | .tp is => gTup K is.length (gNames is)
def Tgt.ix : Tgt → List Nat
  | .nm i => [i]
  | .tp is => is
/-- the slots differ at the places alone -/
def Diff (is : List Nat) (σ σ' : St) : Prop := σ'.length = σ.length ∧ ∀ j, j ∉ is → σ'[j]? = σ[j]?
theorem gNames_of {K : PySem.W.Frag} {ρ : Pl} {H : Hp} {Q : St → Hp → Prop} : ∀ (is : List Nat) (ds : List D) (vs : List V) (τ τ' : Tau) (σ : St), setAll is ds τ = some τ' → VRs K ρ H vs ds → ER K ρ H τ σ → (∀ σ', ER K ρ H τ' σ' → Diff is σ σ' → Q σ' H) → gNames is vs σ H Q
  | [], ds, vs, τ, τ', σ, h, r, e, k => by
    cases ds with
    | nil =>
      cases r
      simp only [setAll, Option.some.injEq] at h
      subst h
      exact ⟨rfl, k σ e ⟨rfl, fun _ _ => rfl⟩⟩
    | cons d ds => simp [setAll] at h
  | i :: is, ds, vs, τ, τ', σ, h, r, e, k => by
    cases r with
    | nil => simp [setAll] at h
    | cons r rs =>
      simp only [setAll] at h
      refine ⟨_, _, rfl, ?_⟩
      refine gNames_of is _ _ _ τ' _ h rs (e.set i r) fun σ' e' d' => k σ' e' ⟨d'.1.trans (by simp), fun j hj => ?_⟩
      have hj' : j ≠ i ∧ j ∉ is := by simpa using hj
      rw [d'.2 j hj'.2, List.getElem?_set_ne (Ne.symm hj'.1)]
theorem tgOf_of {K : PySem.W.Frag} {ρ : Pl} {H : Hp} {Q : St → Hp → Prop} {g : Tgt} {d : D} {v : V} {τ τ' : Tau} {σ : St} (h : bindT g d τ = some τ') (r : VR K ρ H v d) (e : ER K ρ H τ σ) (k : ∀ σ', ER K ρ H τ' σ' → Diff g.ix σ σ' → Q σ' H) : tgOf K g v σ H Q := by
  cases g with
  | nm i =>
    simp only [bindT, Option.some.injEq] at h
    subst h
    exact k _ (e.set i r) ⟨by simp, fun j hj => by
      have : j ≠ i := by simpa [Tgt.ix] using hj
      rw [List.getElem?_set_ne (Ne.symm this)]⟩
  | tp is =>
    cases d with
    | tup ds =>
      obtain ⟨a, xs, rfl, ht, hs⟩ := tup_of r
      refine ⟨a, xs, rfl, ht, ?_, gNames_of is ds xs τ τ' σ h hs e k⟩
      have : ∀ (is : List Nat) (ds : List D) (τ τ' : Tau), setAll is ds τ = some τ' → ds.length = is.length := by
        intro is
        induction is with
        | nil => intro ds τ τ' h; cases ds <;> simp [setAll] at h ⊢
        | cons i is ih => intro ds τ τ' h; cases ds with
          | nil => simp [setAll] at h
          | cons d ds => simp only [setAll] at h; simp [ih _ _ _ h]
      rw [hs.length]; exact this _ _ _ _ h
    | _ => simp [bindT] at h
/-- (a, b, ..) = e, by a tuple -/
def sTup (is : List Nat) (m : ME) : MS := fun τ S => liftS (m τ S) τ fun d S1 => match bindT (.tp is) d τ with
  | some τ' => .nx τ' S1
  | none => .bad
section
variable {X : Cx} {W : WX} {e tg : Expr} {me : ME} {pos : Pos}
theorem s_tup {is : List Nat} (he : PE X e (Em X.K W me)) (hg : PG X tg (tgOf X.K (.tp is))) (hs : swapsWithSole [tg] e pos.line X.env = pure false := by rfl) (hw : swappedStores [tg] e X.env = pure none := by rfl)
    (h1 : (assignEach [tg] X.env).map (·.2) = [assign tg X.env] := by rfl) : PS X (.Assign [tg] e pos) (Sm X.K W (sTup is me)) := PS_imp (ps_asg he hg hs hw h1) fun D σ H ⟨ρ, τ, S, s, r, p⟩ =>
  Em_S (k := fun _ _ => .bad) s r p fun ρ1 H1 S1 v d s1 r1 e1 v1 p1 => by
    split at p1
    · rename_i τ' e
      exact tgOf_of e v1 r1 fun σ' r' _ => p1.here s1 r'
    · exact p1.elim
/-- a, b = x, y | a, b, c = x, y, z : plain names, no tuple made -/
def sPar (is : List Nat) (ms : MA) : MS := fun τ S => liftS (ms τ S) τ fun ds S1 => match setAll is ds τ with
  | some τ' => .nx τ' S1
  | none => .bad
theorem s_par2 {i j : Nat} {mas : MA} {st : Stmt} (hij : i ≠ j) {es : List Expr} (ha : PA X es (Am X.K W mas)) (h : PS X st (tPar i j (Am X.K W mas))) : PS X st (Sm X.K W (sPar [i, j] mas)) := PS_imp h fun D σ H ⟨ρ, τ, S, s, r, p⟩ =>
  Am_S s r p fun ρ1 H1 S1 vs ds s1 r1 e1 v1 p1 => by
    cases v1 with
    | nil => exact p1.elim
    | cons a1 v2 => cases v2 with
      | nil => exact p1.elim
      | cons a2 v3 => cases v3 with
        | nil => exact ⟨_, _, rfl, PostS.here p1 s1 ((r1.set i a1).set j a2)⟩
        | cons a3 v4 => exact p1.elim
end

/-! ### what is walked -/
def keepOk (ks : List (Nat × C)) (S : Sto) : Prop := ∀ p ∈ ks, S[p.1]? = some p.2
structure Items where
  ds : List D
  keep : List (Nat × C)
abbrev MI := Tau → Sto → R Items
/-- from a heap on the iterator J gives the things ds, while the cells of keep stand -/
def IterOK (K : PySem.W.Frag) (ρ0 : Pl) (H0 : Hp) (J : It) (it : Items) : Prop := ∀ ρ H S, Ext ρ0 H0 ρ H → SR K ρ S H → keepOk it.keep S →
  (∀ i, i < it.ds.length → J.go i H) ∧ J.stop it.ds.length H ∧ ∀ i x H', i < it.ds.length → J.yld i H x H' → ∃ d, it.ds[i]? = some d ∧ Ext ρ H ρ H' ∧ SR K ρ S H' ∧ VR K ρ H' x d
def Im (K : PySem.W.Frag) (W : WX) (m : MI) : TI := fun σ H R' => ∃ ρ τ S, SR K ρ S H ∧ ER K ρ H τ σ ∧ match m τ S with
  | .ok it S' => ∀ ρ' H' J, Ext ρ H ρ' H' → SR K ρ' S' H' → keepOk it.keep S' → IterOK K ρ' H' J it → R' J H'
  | .ex c fs S' => ∀ ρ' H' dd, Ext ρ H ρ' H' → SR K ρ' S' H' → XD K ρ' H' dd fs → W (.ref c) dd σ H'
  | .bad => False
theorem PI_imp {X : Cx} {tg e : Expr} {t t' : TI} (h : PI X tg e t) (k : ∀ σ H Q, t' σ H Q → t σ H Q) : PI X tg e t' := ⟨fun pins s σ H Q I w => h.run pins s σ H Q I (k σ H Q w)⟩

/-- whether the cells stand -/
noncomputable def keepB (ks : List (Nat × C)) (S : Sto) : Bool := @decide (keepOk ks S) (Classical.propDecidable _)
theorem keepB_iff {ks : List (Nat × C)} {S : Sto} : keepB ks S = true ↔ keepOk ks S := by unfold keepB; exact @decide_eq_true_iff _ (Classical.propDecidable _)
@[simp] theorem keepB_nil (S : Sto) : keepB [] S = true := keepB_iff.mpr (fun _ h => nomatch h)
/-- the turns of a for -/
noncomputable def forL (ks : List (Nat × C)) (g : Tgt) (body : MS) : List D → Tau → Sto → RS
  | [], τ, S => if keepB ks S = true then .nx τ S else .bad
  | d :: ds, τ, S => if keepB ks S = true then (match bindT g d τ with
    | none => .bad
    | some τ1 => match body τ1 S with
      | .nx τ2 S2 => forL ks g body ds τ2 S2
      | .ct τ2 S2 => forL ks g body ds τ2 S2
      | .bk τ2 S2 => .nx τ2 S2
      | o => o) else .bad
noncomputable def sFor (it : MI) (g : Tgt) (body : MS) : MS := fun τ S => liftS (it τ S) τ fun i S1 => forL i.keep g body i.ds τ S1
section
variable {X : Cx} {W : WX} {iter tg : Expr} {body : List Stmt} {mi : MI} {g : Tgt} {mb : MS} {pos : Pos}
theorem drop_cons {α : Type} {l : List α} {i : Nat} {d : α} (h : l[i]? = some d) : l.drop i = d :: l.drop (i + 1) := by
  obtain ⟨hl, e⟩ := List.getElem?_eq_some_iff.mp h
  rw [List.drop_eq_getElem_cons hl, e]
theorem s_for (hp : PassesOwn (model X.prog X.w) X.A X.env X.xe) (hc : X.calm = true) (hi : PI X tg iter (Im X.K W mi)) (hg : PG X tg (tgOf X.K g)) (hb : PSs X body (Sm X.K W mb))
    (hs : ∀ x, foldedSetIterable iter X.env x = pure x := by intro _; rfl) : PS X (.For tg iter body [] pos) (Sm X.K W (sFor mi g mb)) := PS_imp (ps_for hp hc hi hg hb hs) fun D σ H ⟨ρ, τ, S, s, r, p⟩ => by
  refine ⟨ρ, τ, S, s, r, ?_⟩
  unfold sFor at p
  cases q : mi τ S with
  | bad => rw [q] at p; exact p
  | ex c fs S' =>
    rw [q] at p
    exact fun ρ' H' dd e' s' x' => p ρ' σ H' dd e' s' (r.mono e') x'
  | ok it S1 =>
    rw [q] at p
    intro ρ1 H1 J e1 s1 k1 ok
    refine ⟨fun i m σ H => m = it.ds.length - i ∧ i ≤ it.ds.length ∧ ∃ ρ τ S, SR X.K ρ S H ∧ ER X.K ρ H τ σ ∧ Ext ρ1 H1 ρ H ∧ PostS X.K W ρ H σ (forL it.keep g mb (it.ds.drop i) τ S) D, ⟨it.ds.length, by simp, Nat.zero_le _, ρ1, τ, S1, s1, r.mono e1, Ext.refl, PostS.ext e1 p⟩, ?_⟩
    rintro i m σ2 H2 ⟨rfl, hi, ρ2, τ2, S2, s2, r2, e2, p2⟩
    have kk : keepOk it.keep S2 := by
      cases q2 : it.ds.drop i with
      | nil =>
        rw [q2] at p2; unfold forL at p2; split at p2
        · exact keepB_iff.mp (by assumption)
        · exact p2.elim
      | cons d ds =>
        rw [q2] at p2; unfold forL at p2; split at p2
        · exact keepB_iff.mp (by assumption)
        · exact p2.elim
    obtain ⟨go, stop, yld⟩ := ok ρ2 H2 S2 e2 s2 kk
    by_cases hlt : i < it.ds.length
    · refine .inr ⟨go i hlt, fun σ H => ∃ ρ τ S, SR X.K ρ S H ∧ ER X.K ρ H τ σ ∧ Ext ρ1 H1 ρ H ∧ PostS X.K W ρ H σ (forL it.keep g mb (it.ds.drop (i + 1)) τ S) D, fun σ' H' h' => ⟨it.ds.length - (i + 1), by omega, rfl, hlt, h'⟩, fun x H3 y => ?_⟩
      obtain ⟨d, hd, e3, s3, v3⟩ := yld i x H3 hlt y
      rw [drop_cons hd] at p2
      unfold forL at p2
      rw [if_pos (keepB_iff.mpr kk)] at p2
      cases q2 : bindT g d τ2 with
      | none => rw [q2] at p2; exact p2.elim
      | some τ3 =>
        rw [q2] at p2
        simp only at p2
        refine tgOf_of q2 v3 (r2.mono e3) fun σ3 r3 _ => ⟨ρ2, τ3, S2, s3, r3, ?_⟩
        have p3 := PostS.ext (σ1 := σ3) e3 p2
        cases q3 : mb τ3 S2 with
        | nx τ4 S4 => rw [q3] at p3; exact fun ρ4 σ4 H4 e4 s4 r4 => ⟨ρ4, τ4, S4, s4, r4, (e2.trans e3).trans e4, PostS.ext e4 p3⟩
        | ct τ4 S4 => rw [q3] at p3; exact fun ρ4 σ4 H4 e4 s4 r4 => ⟨ρ4, τ4, S4, s4, r4, (e2.trans e3).trans e4, PostS.ext e4 p3⟩
        | bk τ4 S4 => rw [q3] at p3; exact fun ρ4 σ4 H4 e4 s4 r4 => p3 ρ4 σ4 H4 e4 s4 r4
        | rt d4 S4 => rw [q3] at p3; exact p3
        | ex τ4 c fs S4 => rw [q3] at p3; exact p3
        | bad => rw [q3] at p3; exact p3
    · have e : i = it.ds.length := by omega
      subst e
      rw [List.drop_length] at p2
      unfold forL at p2
      rw [if_pos (keepB_iff.mpr kk)] at p2
      exact .inl ⟨stop, p2.here s2 r2⟩
end
end Z

/-! Z4: comprehensions; lists, tuples, ranges, zip, enumerate walked; while; stores. -/
namespace Z
open PySem L2 RZ

/-! ### comprehensions -/
def noEx {A : Type} : R A → R A
  | .ok a S => .ok a S
  | _ => .bad
@[simp] theorem noEx_ok {A : Type} (a : A) (S : Sto) : noEx (.ok a S) = .ok a S := rfl
@[simp] theorem noEx_ex {A : Type} (c fs) (S : Sto) : noEx (.ex c fs S : R A) = .bad := rfl
@[simp] theorem noEx_bad {A : Type} : noEx (.bad : R A) = .bad := rfl
def wipeT (τ : Tau) : List Nat → Tau
  | [] => τ
  | v :: vs => (wipeT τ vs).set v none
noncomputable def lcL (ks : List (Nat × C)) (g : Tgt) (vs : List Nat) (t : MT) (e : ME) : List D → Tau → Sto → R (List D)
  | [], τ, S => if keepB ks S = true then .ok [] S else .bad
  | d :: ds, τ, S => if keepB ks S = true then (match bindT g d (wipeT τ vs) with
    | none => .bad
    | some τ1 => (noEx (t τ1 S)).bind fun b S1 => if b = true then (noEx (e τ1 S1)).bind fun y S2 => (lcL ks g vs t e ds τ S2).bind fun ys S3 => .ok (y :: ys) S3 else lcL ks g vs t e ds τ S1) else .bad
noncomputable def mComp (it : MI) (g : Tgt) (vs : List Nat) (t : MT) (e : ME) : ME := fun τ S => (it τ S).bind fun i S1 => guardR (i.ds.length ≤ sizeLine) ((lcL i.keep g vs t e i.ds τ S1).bind fun ys S2 => .ok (.lst ys) S2)
abbrev W0 : WX := fun _ _ _ _ => False
section
variable {K : PySem.W.Frag} {σ : St} {H : Hp} {ρ : Pl} {τ : Tau} {S : Sto}
theorem ER.wipe (r : ER K ρ H τ σ) : ∀ vs : List Nat, ER K ρ H (wipeT τ vs) (L2.wipe σ vs)
  | [] => r
  | v :: vs => by
    have ih := ER.wipe r vs
    refine ⟨by simp [wipeT, L2.wipe, ih.1], fun j d h => ?_⟩
    unfold wipeT at h
    by_cases hj : j = v
    · subst hj
      by_cases hl : j < (wipeT τ vs).length
      · rw [List.getElem?_set_self hl] at h; cases h
      · rw [List.getElem?_eq_none (by simpa using hl)] at h; cases h
    · rw [List.getElem?_set_ne (Ne.symm hj)] at h
      obtain ⟨x, h1, h2⟩ := ih.2 j d h
      exact ⟨x, by unfold L2.wipe; rw [List.getElem?_set_ne (Ne.symm hj)]; exact h1, h2⟩
theorem wipe_at {σ : St} {j : Nat} : ∀ {vs : List Nat}, j ∈ vs → j < σ.length → (L2.wipe σ vs)[j]? = some none
  | v :: vs, h, hl => by
    unfold L2.wipe
    by_cases hj : j = v
    · subst hj; rw [List.getElem?_set_self (by rw [wipe_length]; exact hl)]
    · rw [List.getElem?_set_ne (Ne.symm hj)]
      exact wipe_at ((List.mem_cons.mp h).resolve_left hj) hl
theorem wipe_diff {σ σ' : St} {is vs : List Nat} (h : Diff is (L2.wipe σ vs) σ') (hi : ∀ i ∈ is, i ∈ vs) : L2.wipe σ' vs = L2.wipe σ vs := by
  have hl : σ'.length = σ.length := h.1.trans (wipe_length σ vs)
  apply List.ext_getElem?
  intro j
  by_cases hj : j ∈ vs
  · by_cases hs : j < σ.length
    · rw [wipe_at hj (by omega), wipe_at hj hs]
    · rw [List.getElem?_eq_none (by rw [wipe_length]; omega), List.getElem?_eq_none (by rw [wipe_length]; omega)]
  · rw [wipe_out hj, h.2 j (fun z => hj (hi j z))]
theorem noEx_post {A B : Type} {Wk W' : XK} {o : R A} {rel : Pl → Hp → B → A → Prop} {Q : B → Hp → Prop} (h : Post K Wk ρ H (noEx o) rel Q) : Post K W' ρ H o rel Q := by
  cases o with
  | ok a S => exact h
  | ex c fs S => exact h.elim
  | bad => exact h.elim
end

section
variable {X : Cx} {W : WX} {iter tg elt : Expr} {ifs : List Expr} {scope : Scope} {own : List (Str × Nat)} {mi : MI} {g : Tgt} {t : MT} {me : ME} {pos : Pos}
theorem Em_comp {K : PySem.W.Frag} {vs : List Nat} (hi : ∀ i ∈ g.ix, i ∈ vs) {σ : St} {H : Hp} {Q : VK} (h : Em K W (mComp mi g vs t me) σ H Q) : tLc (Im K W mi) (tgOf K g) (Tm K W0 t) (Em K W0 me) vs σ H Q := by
  obtain ⟨ρ, τ, S, s, r, p⟩ := h
  refine ⟨ρ, τ, S, s, r, ?_⟩
  unfold mComp at p
  cases q : mi τ S with
  | bad => rw [q] at p; exact p
  | ex c fs S' => rw [q] at p; exact p
  | ok it S1 =>
    rw [q] at p
    intro ρ1 H1 J e1 s1 k1 ok D hD
    obtain ⟨hz, p⟩ := guardR_post p
    have D1 : D ∉ ρ1.hid := fun z => s1.fresh hD (.inr z)
    have p := Post.ext e1 p
    -- the invariant: what is done (acc) stands at D, hidden; what is left gives the rest
    refine ⟨fun i m H2 => m = it.ds.length - i ∧ i ≤ it.ds.length ∧ ∃ ρ2 S2 acc xs, SR K ρ2 S2 H2 ∧ D ∈ ρ2.hid ∧ Ext ρ1 H1 ρ2 H2 ∧ H2 D = some (.lst xs) ∧ VRs K ρ2 H2 xs acc ∧ acc.length ≤ i ∧
      Post K (fun c d H' => W c d σ H') ρ1 H1 ((lcL it.keep g vs t me (it.ds.drop i) τ S2).bind fun ys S3 => .ok (.lst (acc ++ ys)) S3) (VR K) Q,
      ⟨it.ds.length, by simp, Nat.zero_le _, ρ1.hide D, S1, [], [], s1.hide hD, List.mem_cons_self, Ext.hide hD, upd_same, .nil, Nat.le_refl _, by simpa using p⟩, ?_⟩
    rintro i m H2 ⟨rfl, hi2, ρ2, S2, acc, xs, s2, d2, e2, hD2, ha2, hl2, p2⟩
    have kk : keepOk it.keep S2 := by
      cases q2 : it.ds.drop i with
      | nil =>
        rw [q2] at p2; unfold lcL at p2; split at p2
        · exact keepB_iff.mp (by assumption)
        · exact p2.elim
      | cons d ds =>
        rw [q2] at p2; unfold lcL at p2; split at p2
        · exact keepB_iff.mp (by assumption)
        · exact p2.elim
    obtain ⟨go, stop, yld⟩ := ok ρ2 H2 S2 e2 s2 kk
    by_cases hlt : i < it.ds.length
    · refine .inr ⟨go i hlt, fun H2 => i + 1 ≤ it.ds.length ∧ ∃ ρ2 S2 acc xs, SR K ρ2 S2 H2 ∧ D ∈ ρ2.hid ∧ Ext ρ1 H1 ρ2 H2 ∧ H2 D = some (.lst xs) ∧ VRs K ρ2 H2 xs acc ∧ acc.length ≤ i + 1 ∧
        Post K (fun c d H' => W c d σ H') ρ1 H1 ((lcL it.keep g vs t me (it.ds.drop (i + 1)) τ S2).bind fun ys S3 => .ok (.lst (acc ++ ys)) S3) (VR K) Q, fun H' h' => ⟨it.ds.length - (i + 1), by omega, rfl, h'⟩, fun x H3 y => ?_⟩
      obtain ⟨d, hd, e3, s3, v3⟩ := yld i x H3 hlt y
      rw [drop_cons hd] at p2
      unfold lcL at p2
      rw [if_pos (keepB_iff.mpr kk)] at p2
      cases q2 : bindT g d (wipeT τ vs) with
      | none => rw [q2] at p2; exact p2.elim
      | some τ3 =>
        rw [q2] at p2
        simp only at p2
        have r3 : ER K ρ2 H3 (wipeT τ vs) (L2.wipe σ vs) := ((r.mono (e1.trans e2)).mono e3).wipe vs
        refine tgOf_of q2 v3 r3 fun σ3 r4 df => ⟨wipe_diff df hi, ρ2, τ3, S2, s3, r4, ?_⟩
        cases q3 : t τ3 S2 with
        | ex c fs S' => rw [q3] at p2; exact p2.elim
        | bad => rw [q3] at p2; exact p2.elim
        | ok b S4 =>
          rw [q3] at p2
          intro ρ4 H4 b' e4 s4 hb
          have hb' : b' = b := hb
          subst hb'
          simp only [noEx_ok, R.bind_ok] at p2
          have hD4 : H4 D = some (.lst xs) := e4.keep _ _ (e3.keep _ _ hD2 fun z => (s2.hd D d2).1 z) fun z => (s3.hd D d2).1 z
          have d4 : D ∈ ρ4.hid := e4.hid _ (e3.hid _ d2)
          have ha4 := (ha2.mono e3).mono e4
          have e14 : Ext ρ1 H1 ρ4 H4 := (e2.trans e3).trans e4
          cases b' with
          | false =>
            rw [if_neg (by decide)] at p2
            refine iteF ⟨hlt, ρ4, S4, acc, xs, s4, d4, e14, hD4, ha4, Nat.le_succ_of_le hl2, p2⟩
          | true =>
            rw [if_pos rfl] at p2
            refine iteT ⟨ρ4, τ3, S4, s4, r4.mono e4, ?_⟩
            cases q5 : me τ3 S4 with
            | ex c fs S' => rw [q5] at p2; exact p2.elim
            | bad => rw [q5] at p2; exact p2.elim
            | ok z S5 =>
              rw [q5] at p2
              intro ρ5 H5 yv e5 s5 v5
              simp only [noEx_ok, R.bind_ok] at p2
              have hD5 : H5 D = some (.lst xs) := e5.keep _ _ hD4 fun z => (s4.hd D d4).1 z
              have d5 : D ∈ ρ5.hid := e5.hid _ d4
              have hlen : xs.length ≤ i := by rw [ha2.length]; exact hl2
              refine ⟨xs, hD5, by omega, hlt, ρ5, S5, acc ++ [z], xs ++ [yv], s5.rehide d5, d5, (e14.trans e5).rehide hD, upd_same, (((ha4.mono e5).append (.cons v5 .nil))).rehide d5, by simpa using hl2, ?_⟩
              have : ((lcL it.keep g vs t me (it.ds.drop (i + 1)) τ S5).bind fun ys S3 => R.ok (Z.D.lst (acc ++ [z] ++ ys)) S3) = (((lcL it.keep g vs t me (it.ds.drop (i + 1)) τ S5).bind fun ys S3 => .ok (z :: ys) S3).bind fun ys S3 => .ok (Z.D.lst (acc ++ ys)) S3) := by
                cases lcL it.keep g vs t me (it.ds.drop (i + 1)) τ S5 with
                | ok ys S3 => simp
                | ex c fs S3 => rfl
                | bad => rfl
              rw [this]; exact p2
    · have e : i = it.ds.length := by omega
      subst e
      rw [List.drop_length] at p2
      unfold lcL at p2
      rw [if_pos (keepB_iff.mpr kk)] at p2
      simp only [R.bind_ok, List.append_nil] at p2
      refine .inl ⟨stop, p2 (ρ2.bare D) H2 _ (e2.bare D1) s2.unhide (.lst hD2 (fun z => ?_) ha2.unhide)⟩
      rcases z with z | z
      · exact (s2.hd D d2).1 z
      · exact of_decide_eq_true (List.mem_filter.mp z).2 rfl
theorem z_comp (hc : X.calm = true) (hN : X.N.Nodup) (hi : PI X tg iter (Im X.K W mi)) (ok : BlkOk X.N X.env.scope scope own)
    (hg : ∀ (s : Shared) (H : Hp) (C : Addr) (cl : List (Str × Addr)) (fp : List Addr), PG (X.blk s H scope (compEnvC scope cl C X.env) fp) tg (tgOf X.K g)) (ht : ∀ (s : Shared) (H : Hp) (C : Addr) (cl : List (Str × Addr)) (fp : List Addr), PTs (X.blk s H scope (compEnvC scope cl C X.env) fp) ifs (Tm X.K W0 t))
    (he : ∀ (s : Shared) (H : Hp) (C : Addr) (cl : List (Str × Addr)) (fp : List Addr), PE (X.blk s H scope (compEnvC scope cl C X.env) fp) elt (Em X.K W0 me)) (hin : ∀ i ∈ g.ix, i ∈ own.map (·.2)) (hs : ∀ x, foldedSetIterable iter X.env x = pure x := by intro _; rfl) :
    PE X (.ListComp elt [⟨tg, iter, ifs, 0⟩] scope pos) (Em X.K W (mComp mi g (own.map (·.2)) t me)) := PE_imp (pe_lc hc hN hi ok hg ht he hs) fun σ H Q h => Em_comp hin h
theorem s_setComp {i : Nat} {y : Str} {py spos : Pos} (hc : X.calm = true) (hN : X.N.Nodup) (hy : X.N[i]? = some y) (hyl : X.env.scope.names.lookup y = some .local)
    (hsw : swapsWith (.ListComp elt [⟨tg, iter, ifs, 0⟩] scope pos) (some (.Name y py)) spos.line X.env = pure true) (hi : PI X tg iter (Im X.K W mi)) (ok : BlkOk X.N X.env.scope scope own)
    (hg : ∀ (s : Shared) (H : Hp) (C : Addr) (cl : List (Str × Addr)) (fp : List Addr), PG (X.blk s H scope (compEnvC scope cl C X.env) fp) tg (tgOf X.K g)) (ht : ∀ (s : Shared) (H : Hp) (C : Addr) (cl : List (Str × Addr)) (fp : List Addr), PTs (X.blk s H scope (compEnvC scope cl C X.env) fp) ifs (Tm X.K W0 t))
    (he : ∀ (s : Shared) (H : Hp) (C : Addr) (cl : List (Str × Addr)) (fp : List Addr), PE (X.blk s H scope (compEnvC scope cl C X.env) fp) elt (Em X.K W0 me)) (hin : ∀ i ∈ g.ix, i ∈ own.map (·.2)) (hs : ∀ x, foldedSetIterable iter X.env x = pure x := by intro _; rfl) :
    PS X (.Assign [.Name y py] (.ListComp elt [⟨tg, iter, ifs, 0⟩] scope pos) spos) (Sm X.K W (sAsg i (mComp mi g (own.map (·.2)) t me))) := PS_imp (ps_setLc hc hN hy hyl hsw hi ok hg ht he hs) fun D σ H ⟨ρ, τ, S, s, r, p⟩ =>
  Em_comp hin (Em_S (k := fun _ _ => .bad) s r p fun ρ1 H1 S1 v d s1 r1 e1 v1 p1 => p1.here s1 (r1.set i v1))
/-- no test -/
def tYesM : MT := fun _ S => .ok true S
theorem ts_nil : PTs X [] (Tm X.K W tYesM) := ⟨fun pins s σ H Q I ⟨ρ, τ, S, sr, r, p⟩ => pts_nil.run pins s σ H Q I (p.here sr rfl)⟩
theorem ts_one {c : Expr} (h : PT X c (Tm X.K W t)) : PTs X [c] (Tm X.K W t) := pts_one h
end

/-! ### lists, tuples, texts walked -/
def keepOf : D → Sto → List (Nat × C)
  | .loc l, S => match S[l]? with | some c => [(l, c)] | none => []
  | _, _ => []
def signs (x : Str) : List D := x.cps.toList.map fun c => .str ⟨#[c]⟩
def itemsOf : D → Sto → Option Items
  | .tup ds, _ => some ⟨ds, []⟩
  | .lst ds, _ => some ⟨ds, []⟩
  | .scr ds, _ => some ⟨ds, []⟩
  | .str x, _ => some ⟨signs x, []⟩
  | .loc l, S => match S[l]? with | some (.lst ds) => some ⟨ds, [(l, .lst ds)]⟩ | _ => none
  | _, _ => none
def iSeq (m : ME) : MI := fun τ S => (m τ S).bind fun d S1 => ofO (itemsOf d S1) S1
section
variable {K : PySem.W.Frag} {ρ0 : Pl} {H0 : Hp}
theorem iter_list {a : Addr} {d : D} {it : Items} (r : VR K ρ0 H0 (.ref a) d) (hd : ∀ S, keepOk it.keep S → listR d S = some it.ds) : IterOK K ρ0 H0 (Itl K a) it := fun ρ H S e s k => by
  obtain ⟨b, xs, e1, h1, h2⟩ := listR_of s (r.mono e) (hd S k)
  cases e1
  have hl := h2.length
  refine ⟨fun i hi => ⟨xs, xs[i]'(by omega), h1, by simp⟩, ⟨xs, h1, by omega⟩, fun i x H' hi y => ?_⟩
  obtain ⟨rfl, y2⟩ := y
  obtain ⟨d2, g1, g2⟩ := h2.getV (y2 xs h1)
  exact ⟨d2, g1, Ext.refl, s, g2⟩
theorem iter_tup {a : Addr} {ds : List D} (r : VR K ρ0 H0 (.ref a) (.tup ds)) : IterOK K ρ0 H0 (Itt K a) ⟨ds, []⟩ := fun ρ H S e s k => by
  obtain ⟨b, xs, e1, h1, h2⟩ := tup_of (r.mono e)
  cases e1
  have hl := h2.length
  refine ⟨fun i hi => ⟨xs, xs[i]'(by have : i < ds.length := hi; omega), h1, by simp⟩, ⟨xs, h1, by show xs.length ≤ ds.length; omega⟩, fun i x H' hi y => ?_⟩
  obtain ⟨rfl, y2⟩ := y
  obtain ⟨d2, g1, g2⟩ := h2.getV (y2 xs h1)
  exact ⟨d2, g1, Ext.refl, s, g2⟩
theorem iter_str {x : Str} : IterOK K ρ0 H0 (Its x) ⟨signs x, []⟩ := fun ρ H S e s k => by
  have hn : (signs x).length = x.cps.size := by simp [signs]
  refine ⟨fun i hi => walk_str.goes i H (by rw [← hn]; exact hi) trivial, ?_, fun i v H' hi y => ?_⟩
  · show (Its x).stop (signs x).length H
    rw [hn]; exact walk_str.stops H trivial
  · obtain ⟨rfl, c, hc, rfl⟩ := walk_str.yields i H v H' (by rw [← hn]; exact hi) trivial y
    refine ⟨.str ⟨#[c]⟩, ?_, Ext.refl, s, .str _⟩
    show (signs x)[i]? = _
    unfold signs
    rw [List.getElem?_map, Array.getElem?_toList, hc]; rfl
theorem iter_range {lo : Int} {n : Nat} : IterOK K ρ0 H0 (Itr lo n) ⟨(List.range n).map fun (i : Nat) => .int (lo + (i : Int)), []⟩ := fun ρ H S e s k => by
  refine ⟨fun i hi => by show i < n; simpa using hi, by show n ≤ _; simp, fun i x H' hi y => ?_⟩
  obtain ⟨rfl, rfl⟩ := y
  have hi' : i < n := by simpa using hi
  exact ⟨.int (lo + i), by simp [hi'], Ext.refl, s, .int _⟩
/-- new pairs of what two rows give -/
theorem pair_turn {ρ : Pl} {H H' : Hp} {S : Sto} {v : V} {xs ys : List V} {ds es : List D} {i : Nat} (s : SR K ρ S H) (hx : VRs K ρ H xs ds) (hy : VRs K ρ H ys es)
    (y : ∃ T x y, v = .ref T ∧ H T = none ∧ H' = upd H T (.tup [x, y]) ∧ xs[i]? = some x ∧ ys[i]? = some y) : ∃ d, (List.zipWith (fun a b => D.tup [a, b]) ds es)[i]? = some d ∧ Ext ρ H ρ H' ∧ SR K ρ S H' ∧ VR K ρ H' v d := by
  obtain ⟨T, x, y, rfl, hT, rfl, h1, h2⟩ := y
  obtain ⟨dx, g1, g2⟩ := hx.getV h1
  obtain ⟨dy, k1, k2⟩ := hy.getV h2
  refine ⟨.tup [dx, dy], ?_, Ext.fresh hT, s.laid hT, VR.newTup s hT (.cons g2 (.cons k2 .nil))⟩
  rw [List.getElem?_zipWith, g1, k1]
end
section
variable {X : Cx} {W : WX} {tg e : Expr} {m : ME} {pos : Pos}
theorem Im_of {K : PySem.W.Frag} {σ : St} {H : Hp} {Rr : It → Hp → Prop} (h : Im K W (iSeq m) σ H Rr) : iList K (Em K W m) σ H Rr ∨ iTup K (Em K W m) σ H Rr ∨ iStr (Em K W m) σ H Rr := by
  obtain ⟨ρ, τ, S, s, r, p⟩ := h
  unfold iSeq at p
  cases q : m τ S with
  | bad => rw [q] at p; exact p.elim
  | ex c fs S' =>
    rw [q] at p
    exact .inl ⟨ρ, τ, S, s, r, by rw [q]; exact p⟩
  | ok d S1 =>
    rw [q] at p
    simp only [R.bind_ok] at p
    cases q2 : itemsOf d S1 with
    | none => rw [q2] at p; exact p.elim
    | some it =>
      rw [q2] at p
      simp only [ofO_some] at p
      cases d with
      | tup ds =>
        cases q2
        refine .inr (.inl ⟨ρ, τ, S, s, r, ?_⟩)
        rw [q]
        intro ρ1 H1 v e1 s1 v1
        obtain ⟨a, xs, rfl, h1, h2⟩ := tup_of v1
        exact ⟨a, rfl, ⟨xs, h1⟩, p ρ1 H1 _ e1 s1 (fun _ h => nomatch h) (iter_tup v1)⟩
      | str x =>
        cases q2
        refine .inr (.inr ⟨ρ, τ, S, s, r, ?_⟩)
        rw [q]
        intro ρ1 H1 v e1 s1 v1
        cases v1
        exact ⟨x, rfl, p ρ1 H1 _ e1 s1 (fun _ h => nomatch h) iter_str⟩
      | lst ds =>
        cases q2
        refine .inl ⟨ρ, τ, S, s, r, ?_⟩
        rw [q]
        intro ρ1 H1 v e1 s1 v1
        obtain ⟨a, xs, rfl, h1, h2⟩ := listR_of s1 v1 rfl
        exact ⟨a, rfl, ⟨xs, h1⟩, p ρ1 H1 _ e1 s1 (fun _ h => nomatch h) (iter_list v1 fun _ _ => rfl)⟩
      | scr ds =>
        cases q2
        refine .inl ⟨ρ, τ, S, s, r, ?_⟩
        rw [q]
        intro ρ1 H1 v e1 s1 v1
        obtain ⟨a, xs, rfl, h1, h2⟩ := listR_of s1 v1 rfl
        exact ⟨a, rfl, ⟨xs, h1⟩, p ρ1 H1 _ e1 s1 (fun _ h => nomatch h) (iter_list v1 fun _ _ => rfl)⟩
      | loc l =>
        simp only [itemsOf] at q2
        split at q2
        · rename_i ds hl
          cases q2
          refine .inl ⟨ρ, τ, S, s, r, ?_⟩
          rw [q]
          intro ρ1 H1 v e1 s1 v1
          obtain ⟨a, xs, rfl, h1, h2⟩ := listR_of (ds := ds) s1 v1 (by simp [listR, hl])
          refine ⟨a, rfl, ⟨xs, h1⟩, p ρ1 H1 _ e1 s1 (fun q hq => ?_) (iter_list v1 fun S k => ?_)⟩
          · have : q = (l, .lst ds) := by simpa using hq
            subst this; exact hl
          · have := k (l, .lst ds) (by simp)
            simp [listR, this]
        · cases q2
      | _ => cases q2
theorem i_seq (he : PE X e (Em X.K W m)) : PI X tg e (Im X.K W (iSeq m)) := by
  constructor
  intro pins st σ H Rr I h
  rcases Im_of h with h | h | h
  · exact (pi_list he).run pins st σ H Rr I h
  · exact (pi_tup he).run pins st σ H Rr I h
  · exact (pi_str he).run pins st σ H Rr I h
/-! ### ranges -/
def range1 : List D → Sto → Option Items
  | [.int j], _ => if -(2 ^ 62) ≤ j ∧ j < 2 ^ 62 then some ⟨(List.range j.toNat).map fun (i : Nat) => .int (0 + (i : Int)), []⟩ else none
  | _, _ => none
def range2 : List D → Sto → Option Items
  | [.int i, .int j], _ => if -(2 ^ 62) ≤ i ∧ i < 2 ^ 62 ∧ -(2 ^ 62) ≤ j ∧ j < 2 ^ 62 then some ⟨(List.range (j - i).toNat).map fun (k : Nat) => .int (i + (k : Int)), []⟩ else none
  | _, _ => none
def iArgs (f : List D → Sto → Option Items) (ms : MA) : MI := fun τ S => (ms τ S).bind fun ds S1 => ofO (f ds S1) S1
theorem Im_args {K : PySem.W.Frag} {f : List D → Sto → Option Items} {ms : MA} {σ : St} {H : Hp} {Rr : It → Hp → Prop} {Q1 : List V → Hp → Prop} (h : Im K W (iArgs f ms) σ H Rr)
    (k : ∀ ρ1 H1 S1 vs ds it, SR K ρ1 S1 H1 → VRs K ρ1 H1 vs ds → f ds S1 = some it → (∀ J, keepOk it.keep S1 → IterOK K ρ1 H1 J it → Rr J H1) → Q1 vs H1) : Am K W ms σ H Q1 := by
  obtain ⟨ρ, τ, S, s, r, p⟩ := h
  refine ⟨ρ, τ, S, s, r, ?_⟩
  unfold iArgs at p
  cases q : ms τ S with
  | bad => rw [q] at p; exact p.elim
  | ex c fs S' => rw [q] at p; exact p
  | ok ds S1 =>
    rw [q] at p
    simp only [R.bind_ok] at p
    cases q2 : f ds S1 with
    | none => rw [q2] at p; exact p.elim
    | some it =>
      rw [q2] at p
      exact fun ρ1 H1 vs e1 s1 v1 => k ρ1 H1 S1 vs ds it s1 v1 q2 fun J kk ok => p ρ1 H1 J e1 s1 kk ok
variable {ms : MA} {a b : Expr} {p : Pos}
theorem i_range1 (hm : X.mg "range" = none) (ha : PA X [a] (Am X.K W ms)) (hg : Gl X "range" := by rfl) (hs : starEach [a] X.env = [(false, eval a X.env)] := by rfl) : PI X tg (.Call (.Name "range" p) [a] [] pos) (Im X.K W (iArgs range1 ms)) :=
  PI_imp (pi_range1 hg hm ha hs) fun σ H Q h => Im_args h fun ρ1 H1 S1 vs ds it s1 v1 q k => by
    unfold range1 at q
    split at q
    · cases v1 with
      | cons v1 v2 =>
        cases v2; cases v1
        split at q
        · rename_i hb
          cases q
          exact ⟨_, rfl, hb.1, hb.2, k _ (fun _ h => nomatch h) iter_range⟩
        · cases q
    · cases q
theorem i_range2 (hm : X.mg "range" = none) (ha : PA X [a, b] (Am X.K W ms)) (hg : Gl X "range" := by rfl) (hs : starEach [a, b] X.env = [(false, eval a X.env), (false, eval b X.env)] := by rfl) (hs2 : starEach [b] X.env = [(false, eval b X.env)] := by rfl) : PI X tg (.Call (.Name "range" p) [a, b] [] pos) (Im X.K W (iArgs range2 ms)) :=
  PI_imp (pi_range2 hg hm ha hs hs2) fun σ H Q h => Im_args h fun ρ1 H1 S1 vs ds it s1 v1 q k => by
    unfold range2 at q
    split at q
    · cases v1 with
      | cons v1 v2 =>
        cases v2 with
        | cons v2 v3 =>
          cases v3; cases v1; cases v2
          split at q
          · rename_i hb
            cases q
            exact ⟨_, _, rfl, hb, k _ (fun _ h => nomatch h) iter_range⟩
          · cases q
    · cases q
/-! ### zip, enumerate -/
def zipOf : List D → Sto → Option Items
  | [.tup ds, .tup es], _ => some ⟨List.zipWith (fun a b => .tup [a, b]) ds es, []⟩
  | [x, y], S => match listR x S, listR y S with
    | some ds, some es => some ⟨List.zipWith (fun a b => .tup [a, b]) ds es, keepOf x S ++ keepOf y S⟩
    | _, _ => none
  | _, _ => none
theorem listR_keep {d : D} {S S' : Sto} {ds : List D} (h : listR d S = some ds) (k : keepOk (keepOf d S) S') : listR d S' = some ds := by
  cases d with
  | loc l =>
    simp only [listR] at h
    split at h
    · rename_i es hl
      cases h
      have := k (l, .lst ds) (by simp [keepOf, hl])
      simp [listR, this]
    · cases h
  | _ => exact h
theorem keepOf_ok {d : D} {S : Sto} : keepOk (keepOf d S) S := fun p hp => by
  cases d with
  | loc l =>
    simp only [keepOf] at hp
    split at hp
    · rename_i c hl
      have : p = (l, c) := by simpa using hp
      subst this; exact hl
    · exact nomatch hp
  | _ => exact nomatch hp
theorem keepOk_app {a b : List (Nat × C)} {S : Sto} : keepOk (a ++ b) S ↔ keepOk a S ∧ keepOk b S := by
  constructor
  · intro h; exact ⟨fun p hp => h p (List.mem_append_left _ hp), fun p hp => h p (List.mem_append_right _ hp)⟩
  · rintro ⟨h1, h2⟩ p hp
    rcases List.mem_append.mp hp with z | z
    · exact h1 p z
    · exact h2 p z
theorem iter_zipT {K : PySem.W.Frag} {ρ0 : Pl} {H0 : Hp} {a b : Addr} {ds es : List D} (ra : VR K ρ0 H0 (.ref a) (.tup ds)) (rb : VR K ρ0 H0 (.ref b) (.tup es)) : IterOK K ρ0 H0 (ItzT K a b) ⟨List.zipWith (fun a b => .tup [a, b]) ds es, []⟩ := fun ρ H S e s k => by
  obtain ⟨_, xs, e1, h1, h2⟩ := tup_of (ra.mono e)
  cases e1
  obtain ⟨_, ys, e1, k1, k2⟩ := tup_of (rb.mono e)
  cases e1
  have hl := h2.length
  have hl2 := k2.length
  refine ⟨fun i hi => ?_, ⟨xs, ys, h1, k1, by show xs.length ≤ (List.zipWith _ _ _).length ∨ _; rw [List.length_zipWith]; omega⟩, fun i x H' hi y => ?_⟩
  · have hi' : i < (List.zipWith (fun a b => D.tup [a, b]) ds es).length := hi
    rw [List.length_zipWith] at hi'
    exact ⟨xs, ys, xs[i]'(by omega), ys[i]'(by omega), h1, k1, by simp, by simp⟩
  · obtain ⟨T, x, y, e1, e2, e3, e4, e5⟩ := y
    exact pair_turn s h2 k2 ⟨T, x, y, e1, e2, e3, e4 xs h1, e5 ys k1⟩
theorem iter_zipL {K : PySem.W.Frag} {ρ0 : Pl} {H0 : Hp} {a b : Addr} {dx dy : D} {ds es : List D} {S0 : Sto} (ra : VR K ρ0 H0 (.ref a) dx) (rb : VR K ρ0 H0 (.ref b) dy) (hx : listR dx S0 = some ds) (hy : listR dy S0 = some es) :
    IterOK K ρ0 H0 (Itz K a b) ⟨List.zipWith (fun a b => .tup [a, b]) ds es, keepOf dx S0 ++ keepOf dy S0⟩ := fun ρ H S e s k => by
  obtain ⟨ka, kb⟩ := keepOk_app.mp k
  obtain ⟨_, xs, e1, h1, h2⟩ := listR_of s (ra.mono e) (listR_keep hx ka)
  cases e1
  obtain ⟨_, ys, e1, k1, k2⟩ := listR_of s (rb.mono e) (listR_keep hy kb)
  cases e1
  have hl := h2.length
  have hl2 := k2.length
  refine ⟨fun i hi => ?_, ⟨xs, ys, h1, k1, by show xs.length ≤ (List.zipWith _ _ _).length ∨ _; rw [List.length_zipWith]; omega⟩, fun i x H' hi y => ?_⟩
  · have hi' : i < (List.zipWith (fun a b => D.tup [a, b]) ds es).length := hi
    rw [List.length_zipWith] at hi'
    exact ⟨xs, ys, xs[i]'(by omega), ys[i]'(by omega), h1, k1, by simp, by simp⟩
  · obtain ⟨T, x, y, e1, e2, e3, e4, e5⟩ := y
    exact pair_turn s h2 k2 ⟨T, x, y, e1, e2, e3, e4 xs h1, e5 ys k1⟩
theorem i_zip {elts : List Expr} {kk : Nat} {tpos : Pos} (hm : X.mg "zip" = none) (ha : PA X [a, b] (Am X.K W ms)) (hg : Gl X "zip" := by rfl)
    (hs : starEach [a, b] X.env = (false, eval a X.env) :: starEach [b] X.env := by rfl) (hpl : (backTo pos (starEach [b] X.env)).any (·.1) = false := by rfl) : PI X (.Tuple elts kk tpos) (.Call (.Name "zip" p) [a, b] [] pos) (Im X.K W (iArgs zipOf ms)) :=
  PI_imp (pi_zipA hg hm ha hs hpl) fun σ H Q h => Im_args h fun ρ1 H1 S1 vs ds it s1 v1 q k => by
    unfold zipOf at q
    split at q
    · cases v1 with
      | cons v1 v2 => cases v2 with
        | cons v2 v3 =>
          cases v3; cases q
          obtain ⟨x, xs, rfl, h1, h2⟩ := tup_of v1
          obtain ⟨y, ys, rfl, k1, k2⟩ := tup_of v2
          exact ⟨x, y, xs, ys, rfl, .inr ⟨h1, k1, k _ (fun _ h => nomatch h) (iter_zipT v1 v2)⟩⟩
    · cases v1 with
      | cons v1 v2 => cases v2 with
        | cons v2 v3 =>
          cases v3
          split at q
          · rename_i q1 q2
            cases q
            obtain ⟨x, xs, rfl, h1, h2⟩ := listR_of s1 v1 q1
            obtain ⟨y, ys, rfl, k1, k2⟩ := listR_of s1 v2 q2
            exact ⟨x, y, xs, ys, rfl, .inl ⟨h1, k1, k _ (keepOk_app.mpr ⟨keepOf_ok, keepOf_ok⟩) (iter_zipL v1 v2 q1 q2)⟩⟩
          · cases q
    · cases q
def enumFrom (n : Nat) : List D → List D
  | [] => []
  | d :: ds => .tup [.int (n : Int), d] :: enumFrom (n + 1) ds
def enumOf : List D → Sto → Option Items
  | [x], S => (listR x S).map fun ds => ⟨enumFrom 0 ds, keepOf x S⟩
  | _, _ => none
theorem enumFrom_len : ∀ (n : Nat) (ds : List D), (enumFrom n ds).length = ds.length
  | _, [] => rfl
  | n, d :: ds => by simp [enumFrom, enumFrom_len (n + 1) ds]
theorem enumFrom_get : ∀ (n : Nat) (ds : List D) (i : Nat) (d : D), ds[i]? = some d → (enumFrom n ds)[i]? = some (.tup [.int ((n + i : Nat) : Int), d])
  | _, [], _, _, h => by simp at h
  | n, x :: ds, 0, d, h => by simp at h; subst h; simp [enumFrom]
  | n, x :: ds, i + 1, d, h => by
    have := enumFrom_get (n + 1) ds i d (by simpa using h)
    simp only [enumFrom, List.getElem?_cons_succ, this]
    congr 5; omega
theorem i_enum {elts : List Expr} {kk : Nat} {tpos : Pos} (hm : X.mg "enumerate" = none) (ha : PA X [a] (Am X.K W ms)) (hg : Gl X "enumerate" := by rfl) (hs : starEach [a] X.env = [(false, eval a X.env)] := by rfl) :
    PI X (.Tuple elts kk tpos) (.Call (.Name "enumerate" p) [a] [] pos) (Im X.K W (iArgs enumOf ms)) :=
  PI_imp (pi_enum hg hm ha hs) fun σ H Q h => Im_args h fun ρ1 H1 S1 vs ds it s1 v1 q k => by
    unfold enumOf at q
    split at q
    · cases v1 with
      | cons v1 v2 =>
        cases v2
        cases q2 : listR _ S1 with
        | none => rw [q2] at q; cases q
        | some ds =>
          rw [q2] at q
          cases q
          obtain ⟨x, xs, rfl, h1, h2⟩ := listR_of s1 v1 q2
          refine ⟨x, xs, rfl, h1, k _ keepOf_ok fun ρ H S e s kk => ?_⟩
          obtain ⟨_, ys, e1, k1, k2⟩ := listR_of s (v1.mono e) (listR_keep q2 kk)
          cases e1
          have hl := k2.length
          refine ⟨fun i hi => ?_, ?_, fun i v H' hi y => ?_⟩
          · have hi' : i < (enumFrom 0 ds).length := hi
            rw [enumFrom_len] at hi'
            exact ⟨ys, ys[i]'(by omega), k1, by simp⟩
          · refine ⟨ys, k1, ?_⟩
            show ys.length ≤ (enumFrom 0 ds).length
            rw [enumFrom_len]; omega
          · obtain ⟨T, x2, rfl, e2, rfl, e4⟩ := y
            obtain ⟨d2, g1, g2⟩ := k2.getV (e4 ys k1)
            refine ⟨_, by simpa using enumFrom_get 0 ds i d2 g1, Ext.fresh e2, s.laid e2, VR.newTup s e2 (.cons (.int _) (.cons g2 .nil))⟩
    · cases q
end
end Z

/-! Z5: what a thing reads as (PyData); operators and built-ins over data. -/
namespace Z
open PySem L2

def keyPy : Key → PyData
  | .inl i => .int i
  | .inr x => .str x
mutual
def toPyD : D → Option PyData
  | .non => some .none
  | .bl b => some (.bool b)
  | .int i => some (.int i)
  | .str x => some (.str x)
  | .tup ds => (toPyDs ds).map .tuple
  | .lst ds => (toPyDs ds).map .list
  | .scr ds => (toPyDs ds).map .list
  | .dct ks ds => (toPyDs ds).map fun vs => .dict (List.zip (ks.map keyPy) vs)
  | .loc _ => none
  | .ob _ => none
def toPyDs : List D → Option (List PyData)
  | [] => some []
  | d :: ds => match toPyD d, toPyDs ds with
    | some p, some ps => some (p :: ps)
    | _, _ => none
end
def toPy (d : D) (S : Sto) : Option PyData := match d with
  | .loc l => match S[l]? with
    | some (.lst ds) => (toPyDs ds).map .list
    | some (.dK false kvs) => (toPyDs (kvs.map (·.2))).map fun vs => .dict (List.zip (kvs.map fun p => keyPy p.1) vs)
    | _ => none
  | d => toPyD d
theorem toPyDs_len : ∀ {ds : List D} {ps : List PyData}, toPyDs ds = some ps → ps.length = ds.length
  | [], ps, h => by simp [toPyDs] at h; subst h; rfl
  | d :: ds, ps, h => by
    simp only [toPyDs] at h
    split at h
    · rename_i p qs h1 h2
      cases h
      simp [toPyDs_len h2]
    · cases h
section
variable {X : Cx} {pins : List (Addr × Obj)} {σ : St} {st : Shared} {ρ : Pl} {H : Hp} {S : Sto}
theorem reads_dict (I : Inv X pins σ H st) {a : Addr} {ws : List (Key × V)} (h : H a = some (.dK ws)) {ps : List PyData} (hl : ps.length = ws.length) {B : Prop} (hv : ∀ us, Vals (ws.map (·.2)) us → ∃ as, ReadsAll st.heap us ps as ∧ (B → sysModules ∉ as)) :
    ∃ as, Reads st.heap (.ref a) (.dict (List.zip (ws.map fun p => keyPy p.1) ps)) as ∧ (B → sysModules ∉ as) := by
  obtain ⟨_, hsys, vs, hkv, o, es, ep, ho, hex, hd, _, hp, _⟩ := I.hok a _ h
  have main : ∀ (es : List DictEntry) (ws : List (Key × V)) (vs : List (Key × Value)), KV ws vs → PySem.Pairs (mixKind X.prog X.w) es vs → ReadsAll st.heap (es.map (·.key)) (ws.map fun p => keyPy p.1) [] ∧ Vals (ws.map (·.2)) (es.map (·.val)) := by
    intro es
    induction es with
    | nil =>
      intro ws vs hk hp
      cases hp; cases hk
      exact ⟨.nil, .nil⟩
    | cons e es ih =>
      intro ws vs hk hp
      cases hp with
      | cons h1 h2 h3 =>
        cases hk with
        | cons k1 k2 =>
          obtain ⟨r, q⟩ := ih _ _ k2 h3
          obtain ⟨e1, e2⟩ := k1
          refine ⟨?_, .cons (by show RelV _ e.val; rw [h2]; exact e2) q⟩
          rename_i kv vs' pw ws'
          obtain ⟨k, v⟩ := pw
          simp only at e1
          have hk1 : keyIs kv.1 e.key = true := h1
          rw [← e1] at hk1
          rcases keyIs_shape hk1 with ⟨i, t, e3, e4⟩ | ⟨x, t, e3, e4⟩
          · refine ReadsAll.cons (as := []) (bs := []) ?_ r
            simp only [e4]; rw [show keyPy k = .int i from by rw [e3]; rfl]; exact .int i t
          · refine ReadsAll.cons (as := []) (bs := []) ?_ r
            simp only [e4]; rw [show keyPy k = .str x from by rw [e3]; rfl]; exact .str x t
  obtain ⟨r1, r2⟩ := main es.toList ws vs hkv hp
  obtain ⟨bs, r3, hb⟩ := hv _ r2
  refine ⟨_, Reads.dict (as := []) (bs := bs) ho hex.1 hd ?_ ?_, fun b z => ?_⟩
  · rw [show (List.zip (ws.map fun p => keyPy p.1) ps).map (·.1) = ws.map fun p => keyPy p.1 from by
      rw [List.map_fst_zip]; simp [hl]]
    exact r1
  · rw [show (List.zip (ws.map fun p => keyPy p.1) ps).map (·.2) = ps from by
      rw [List.map_snd_zip]; simp [hl]]
    exact r3
  · rcases List.mem_cons.mp (show sysModules ∈ a :: bs from by simpa using z) with z | z
    · exact absurd (beq_iff_eq.mpr z.symm) (by rw [hsys]; decide)
    · exact hb b z
mutual
/-- no list within -/
def noList : D → Bool
  | .tup ds => noLists ds
  | .dct _ ds => noLists ds
  | .lst _ => false
  | .scr _ => false
  | .loc _ => false
  | _ => true
def noLists : List D → Bool
  | [] => true
  | d :: ds => noList d && noLists ds
end
mutual
theorem VR.reads (I : Inv X pins σ H st) : ∀ (d : D) (v : V) (u : Value) (p : PyData), VR X.K ρ H v d → RelV v u → toPyD d = some p → ∃ as, Reads st.heap u p as ∧ (noList d = true → sysModules ∉ as)
  | .non, _, _, _, r, q, h => by cases r; cases h; cases q; exact ⟨_, .none, fun _ z => nomatch z⟩
  | .bl b, _, _, _, r, q, h => by cases r; cases h; cases q; exact ⟨_, .bool b, fun _ z => nomatch z⟩
  | .int i, _, _, _, r, q, h => by cases r; cases h; obtain ⟨t, rfl⟩ := q; exact ⟨_, .int i t, fun _ z => nomatch z⟩
  | .str x, _, _, _, r, q, h => by cases r; cases h; obtain ⟨t, rfl⟩ := q; exact ⟨_, .str x t, fun _ z => nomatch z⟩
  | .tup ds, v, u, p, r, q, h => by
    simp only [toPyD, Option.map_eq_some_iff] at h
    obtain ⟨ps, h1, rfl⟩ := h
    obtain ⟨a, xs, rfl, ht, hs⟩ := tup_of r
    cases q
    obtain ⟨its, rv, ⟨o, ho, hc, n, hd⟩, _⟩ := I.tuple ht
    obtain ⟨as, hr, hb⟩ := VRs.reads I ds _ its ps hs rv h1
    exact ⟨_, .tuple ho hc hd hr, hb⟩
  | .lst ds, v, u, p, r, q, h => by
    simp only [toPyD, Option.map_eq_some_iff] at h
    obtain ⟨ps, h1, rfl⟩ := h
    cases r with
    | lst h2 h3 hs =>
      cases q
      obtain ⟨its, rv, ⟨o, n, ho, hc, _, hd⟩, _⟩ := I.list (SqL.of h2)
      obtain ⟨as, hr, hb⟩ := VRs.reads I ds _ its ps hs rv h1
      exact ⟨_, .list ho hc hd hr, fun z => nomatch z⟩
  | .scr ds, v, u, p, r, q, h => by
    simp only [toPyD, Option.map_eq_some_iff] at h
    obtain ⟨ps, h1, rfl⟩ := h
    cases r with
    | @scr a xs _ h2 hs =>
      cases q
      have hq : SqL X.K H a xs := by
        rcases h2 with ⟨o, h2, _⟩ | h2
        · exact .inl (.inr ⟨o, h2⟩)
        · exact h2 H
      obtain ⟨its, rv, ⟨o, n, ho, hc, _, hd⟩, _⟩ := I.list hq
      obtain ⟨as, hr, hb⟩ := VRs.reads I ds _ its ps hs rv h1
      exact ⟨_, .list ho hc hd hr, fun z => nomatch z⟩
  | .dct ks ds, v, u, p, r, q, h => by
    simp only [toPyD, Option.map_eq_some_iff] at h
    obtain ⟨ps, h1, rfl⟩ := h
    cases r with
    | dct h2 h3 hk hs =>
      cases q
      have := reads_dict I h2 (ps := ps) (B := noLists ds = true) (by rw [toPyDs_len h1, ← hs.length]; simp) fun us hu => VRs.reads I ds _ us ps hs hu h1
      rw [← hk]
      rw [List.map_map]
      exact this
  | .loc l, _, _, _, _, _, h => by simp [toPyD] at h
  | .ob v, _, _, _, _, _, h => by simp [toPyD] at h
theorem VRs.reads (I : Inv X pins σ H st) : ∀ (ds : List D) (vs : List V) (us : List Value) (ps : List PyData), VRs X.K ρ H vs ds → Vals vs us → toPyDs ds = some ps → ∃ as, ReadsAll st.heap us ps as ∧ (noLists ds = true → sysModules ∉ as)
  | [], _, _, _, r, q, h => by cases r; cases q; simp [toPyDs] at h; subst h; exact ⟨_, .nil, fun _ z => nomatch z⟩
  | d :: ds, _, _, _, r, q, h => by
    simp only [toPyDs] at h
    split at h
    · rename_i p ps h1 h2
      cases h
      cases r with
      | cons r1 r2 =>
        cases q with
        | cons q1 q2 =>
          obtain ⟨as, k1, b1⟩ := VR.reads I d _ _ _ r1 q1 h1
          obtain ⟨bs, k2, b2⟩ := VRs.reads I ds _ _ _ r2 q2 h2
          refine ⟨_, .cons k1 k2, fun z => ?_⟩
          have z' : noList d = true ∧ noLists ds = true := by simpa [noLists] using z
          rw [List.mem_append]
          rintro (y | y)
          · exact b1 z'.1 y
          · exact b2 z'.2 y
    · cases h
end
/-- what is to be read as p, whatever state bears the heap -/
def RdP (X : Cx) (H : Hp) (v : V) (p : PyData) : Prop := ∀ (pins : List (Addr × Obj)) (σ : St) (st : Shared) (u : Value), Inv X pins σ H st → RelV v u → ∃ as, Reads st.heap u p as
theorem rdP_of (s : SR X.K ρ S H) {v : V} {d : D} {p : PyData} (r : VR X.K ρ H v d) (h : toPy d S = some p) : RdP X H v p := fun pins σ st u I q => by
  cases d with
  | loc l =>
    cases r with
    | loc hl =>
      cases q
      simp only [toPy] at h
      split at h
      · rename_i ds e
        simp only [Option.map_eq_some_iff] at h
        obtain ⟨ps, h1, rfl⟩ := h
        obtain ⟨xs, h2, h3⟩ := s.at hl e
        obtain ⟨its, rv, ⟨o, n, ho, hc, _, hd⟩, _⟩ := I.list (SqL.of h2)
        obtain ⟨as, hr, _⟩ := VRs.reads I ds _ its ps h3 rv h1
        exact ⟨_, .list ho hc hd hr⟩
      · rename_i kvs e
        simp only [Option.map_eq_some_iff] at h
        obtain ⟨ps, h1, rfl⟩ := h
        obtain ⟨ws, h2, h3⟩ := s.at hl e
        have hk : ws.map (·.1) = kvs.map (·.1) ∧ VRs X.K ρ H (ws.map (·.2)) (kvs.map (·.2)) := by
          clear h1 h2 e
          induction h3 with
          | nil => exact ⟨rfl, .nil⟩
          | cons q _ ih => exact ⟨by simp [ih.1], .cons q ih.2⟩
        obtain ⟨as, this, _⟩ := reads_dict I h2 (ps := ps) (B := False) (by rw [toPyDs_len h1, ← hk.2.length]; simp) fun us hu => let ⟨as, r, _⟩ := VRs.reads I _ _ us ps hk.2 hu h1; ⟨as, r, fun z => z.elim⟩
        have e2 : (ws.map fun p => keyPy p.1) = kvs.map fun p => keyPy p.1 := by
          have := congrArg (List.map keyPy) hk.1
          simpa [List.map_map, Function.comp_def] using this
        rw [e2] at this
        exact ⟨_, this⟩
      · cases h
  | _ => exact let ⟨as, r, _⟩ := VR.reads I _ _ _ _ r q h; ⟨as, r⟩
end

/-- .. without sys.modules among its objects -/
def RdS (X : Cx) (H : Hp) (v : V) (p : PyData) : Prop := ∀ (pins : List (Addr × Obj)) (σ : St) (st : Shared) (u : Value), Inv X pins σ H st → RelV v u → ∃ as, Reads st.heap u p as ∧ sysModules ∉ as
theorem rdS_of {X : Cx} {ρ : Pl} {H : Hp} {v : V} {d : D} {p : PyData} (r : VR X.K ρ H v d) (h : toPyD d = some p) (hn : noList d = true) : RdS X H v p := fun pins σ st u I q =>
  let ⟨as, h1, h2⟩ := VR.reads I _ _ _ _ r q h
  ⟨as, h1, h2 hn⟩

/-! ### operators over data -/
def rDat (X : Cx) (C : PyData → PyData → Prop) (f : PyData → PyData → Bool) : R2 := fun x y H Q => ∃ p q, RdP X H x p ∧ RdP X H y q ∧ C p q ∧ Q (.bl (f p q)) H
def PlainC (p q : PyData) : Prop := p.plain = true ∧ q.plain = true ∧ p.depth ≤ 64
def AlikeC (p q : PyData) : Prop := PySem.W.alike p q = true ∧ p ≠ .none ∧ p.depth ≤ 64
def InC (p q : PyData) : Prop := p.plain = true ∧ p.depth ≤ 64 ∧ ((∃ xs, q = .list xs ∧ PyData.plainAll xs = true) ∨ ∃ xs, q = .tuple xs ∧ PyData.plainAll xs = true)
def inPy (p q : PyData) : Bool := match q with
  | .list xs => xs.any fun y => PyData.eqv y p
  | .tuple xs => xs.any fun y => PyData.eqv y p
  | _ => false
section
variable {X : Cx} (hu : X.A.units + 100 < cLine)
include hu
theorem op_eqP : OpR X (compareOp .Eq) (rDat X PlainC PyData.eqv) := fun pins st σ H x y v u Q I rx ry ⟨p, q, hp, hq, ⟨c1, c2, c3⟩, h⟩ => by
  obtain ⟨as, r1⟩ := hp pins σ st v I rx
  obtain ⟨bs, r2⟩ := hq pins σ st u I ry
  exact SeqAt.eq_plain r1 r2 c1 c2 (by omega) ⟨.bl _, H, I, rfl, h⟩
theorem op_neP : OpR X (compareOp .NotEq) (rDat X PlainC fun p q => !PyData.eqv p q) := fun pins st σ H x y v u Q I rx ry ⟨p, q, hp, hq, ⟨c1, c2, c3⟩, h⟩ => by
  obtain ⟨as, r1⟩ := hp pins σ st v I rx
  obtain ⟨bs, r2⟩ := hq pins σ st u I ry
  exact SeqAt.ne_plain r1 r2 c1 c2 (by omega) ⟨.bl _, H, I, rfl, h⟩
theorem op_ltP : OpR X (compareOp .Lt) (rDat X AlikeC fun p q => PySem.W.dataLt p q) := fun pins st σ H x y v u Q I rx ry ⟨p, q, hp, hq, ⟨c1, c2, c3⟩, h⟩ => by
  obtain ⟨as, r1⟩ := hp pins σ st v I rx
  obtain ⟨bs, r2⟩ := hq pins σ st u I ry
  exact PySem.W.lt_data r1 r2 c1 c2 (by omega) ⟨.bl _, H, I, rfl, h⟩
theorem op_gtP : OpR X (compareOp .Gt) (rDat X AlikeC fun p q => PySem.W.dataLt q p) := fun pins st σ H x y v u Q I rx ry ⟨p, q, hp, hq, ⟨c1, c2, c3⟩, h⟩ => by
  obtain ⟨as, r1⟩ := hp pins σ st v I rx
  obtain ⟨bs, r2⟩ := hq pins σ st u I ry
  exact PySem.W.gt_data r1 r2 c1 c2 (by omega) ⟨.bl _, H, I, rfl, h⟩
theorem op_leP : OpR X (compareOp .LtE) (rDat X AlikeC fun p q => !PySem.W.dataLt q p) := fun pins st σ H x y v u Q I rx ry ⟨p, q, hp, hq, ⟨c1, c2, c3⟩, h⟩ => by
  obtain ⟨as, r1⟩ := hp pins σ st v I rx
  obtain ⟨bs, r2⟩ := hq pins σ st u I ry
  exact PySem.W.le_data r1 r2 c1 c2 (by omega) ⟨.bl _, H, I, rfl, h⟩
theorem op_geP : OpR X (compareOp .GtE) (rDat X AlikeC fun p q => !PySem.W.dataLt p q) := fun pins st σ H x y v u Q I rx ry ⟨p, q, hp, hq, ⟨c1, c2, c3⟩, h⟩ => by
  obtain ⟨as, r1⟩ := hp pins σ st v I rx
  obtain ⟨bs, r2⟩ := hq pins σ st u I ry
  exact PySem.W.ge_data r1 r2 c1 c2 (by omega) ⟨.bl _, H, I, rfl, h⟩
theorem op_inP : OpR X (compareOp .In) (rDat X InC inPy) := fun pins st σ H x y v u Q I rx ry ⟨p, q, hp, hq, ⟨c1, c2, c3⟩, h⟩ => by
  obtain ⟨as, r1⟩ := hp pins σ st v I rx
  obtain ⟨bs, r2⟩ := hq pins σ st u I ry
  rcases c3 with ⟨xs, rfl, hxs⟩ | ⟨xs, rfl, hxs⟩
  · exact SeqAt.in_list_data r2 r1 hxs c1 (by omega) ⟨.bl _, H, I, rfl, h⟩
  · exact SeqAt.in_tuple_data r2 r1 hxs c1 (by omega) ⟨.bl _, H, I, rfl, h⟩
theorem op_notInP : OpR X (compareOp .NotIn) (rDat X InC fun p q => !inPy p q) := fun pins st σ H x y v u Q I rx ry ⟨p, q, hp, hq, ⟨c1, c2, c3⟩, h⟩ => by
  obtain ⟨as, r1⟩ := hp pins σ st v I rx
  obtain ⟨bs, r2⟩ := hq pins σ st u I ry
  rcases c3 with ⟨xs, rfl, hxs⟩ | ⟨xs, rfl, hxs⟩
  · exact SeqAt.notIn_list_data r2 r1 hxs c1 (by omega) ⟨.bl _, H, I, rfl, h⟩
  · exact SeqAt.notIn_tuple_data r2 r1 hxs c1 (by omega) ⟨.bl _, H, I, rfl, h⟩
end
end Z

/-! Z6: operators and built-ins on things. -/
namespace Z
open PySem L2

/-! ### arithmetic -/
def dAdd : D → D → Sto → R D
  | .int i, .int j, S => .ok (.int (i + j)) S
  | .str x, .str y, S => guardR (x.length + y.length ≤ sizeLine) (.ok (.str (x ++ y)) S)
  | .tup xs, .tup ys, S => guardR (xs.length + ys.length ≤ sizeLine) (.ok (.tup (xs ++ ys)) S)
  | x, y, S => match listD x S, listD y S with
    | some xs, some ys => guardR (xs.length + ys.length ≤ sizeLine) (.ok (.lst (xs ++ ys)) S)
    | _, _ => .bad
def dSub : D → D → Sto → R D
  | .int i, .int j, S => .ok (.int (i - j)) S
  | _, _, _ => .bad
def dMul : D → D → Sto → R D
  | .int i, .int j, S => guardR ((-(2 ^ 64) < i ∧ i < 2 ^ 64) ∨ (-(2 ^ 64) < j ∧ j < 2 ^ 64)) (.ok (.int (i * j)) S)
  | .tup xs, .int k, S => guardR (xs.isEmpty = false ∧ 2 ≤ k ∧ k ≤ 1000 ∧ xs.length ≤ 1000) (.ok (.tup (List.replicate k.toNat xs).flatten) S)
  | _, _, _ => .bad
def dMod : D → D → Sto → R D
  | .int i, .int j, S => guardR (0 < j) (.ok (.int (i % j)) S)
  | _, _, _ => .bad
def dFdiv : D → D → Sto → R D
  | .int i, .int j, S => guardR (0 < j ∧ j < 1073741824) (.ok (.int (i / j)) S)
  | _, _, _ => .bad
def dPow : D → D → Sto → R D
  | .int i, .int j, S => guardR (0 ≤ j ∧ j ≤ 1000000 ∧ i.natAbs < 2 ^ 64) (.ok (.int (i ^ j.toNat)) S)
  | _, _, _ => .bad
theorem VRs.rep {K : PySem.W.Frag} {ρ : Pl} {H : Hp} {vs : List V} {ds : List D} (h : VRs K ρ H vs ds) : ∀ k : Nat, VRs K ρ H (List.replicate k vs).flatten (List.replicate k ds).flatten
  | 0 => .nil
  | k + 1 => by
    simp only [List.replicate_succ, List.flatten_cons]
    exact h.append (VRs.rep h k)
section
variable {K : PySem.W.Frag}
def rAddR (K : PySem.W.Frag) : R2 := fun x y H Q => rI0 (fun i j => .int (i + j)) x y H Q ∨ (∃ i j, x = .str i ∧ y = .str j ∧ i.length + j.length ≤ sizeLine ∧ Q (.str (i ++ j)) H) ∨ rCatA K x y H Q ∨ rCat x y H Q
theorem add_lists {Wk : XK} {ρ : Pl} {S : Sto} {H : Hp} {x y : V} {dx dy : D} {Q : VK} (s : SR K ρ S H) (rx : VR K ρ H x dx) (ry : VR K ρ H y dy)
    (h : Post K Wk ρ H (match listD dx S, listD dy S with
    | some xs, some ys => guardR (xs.length + ys.length ≤ sizeLine) (.ok (.lst (xs ++ ys)) S)
    | _, _ => .bad) (VR K) Q) : rCat x y H Q := by
  split at h
  · rename_i xs ys h1 h2
    obtain ⟨hz, h⟩ := guardR_post h
    obtain ⟨a, vs, rfl, ha, hs⟩ := listD_of s rx h1
    obtain ⟨b, ws, rfl, hb, gs⟩ := listD_of s ry h2
    exact ⟨a, b, vs, ws, rfl, rfl, ha, hb, by rw [hs.length, gs.length]; exact hz, h.newLst s (hs.append gs)⟩
  · exact h.elim
theorem dAdd_ok : OpS K dAdd (rAddR K) := fun Wk ρ S H x y dx dy Q s rx ry h => by
  unfold dAdd at h
  split at h
  · cases rx; cases ry
    exact .inl ⟨_, _, rfl, rfl, h.here s (.int _)⟩
  · cases rx; cases ry
    obtain ⟨hz, h⟩ := guardR_post h
    exact .inr (.inl ⟨_, _, rfl, rfl, hz, h.here s (.str _)⟩)
  · obtain ⟨hz, h⟩ := guardR_post h
    obtain ⟨a, vs, rfl, ha, hs⟩ := tup_of rx
    obtain ⟨b, ws, rfl, hb, gs⟩ := tup_of ry
    refine .inr (.inr (.inl ⟨a, b, vs, ws, rfl, rfl, ha, hb, by rw [hs.length, gs.length]; exact hz, fun e => ?_, fun e1 e2 => ?_, fun _ _ => h.newTup s (hs.append gs)⟩))
    · subst e
      cases hs
      exact h.here s ry
    · subst e2
      cases gs
      exact h.here s (by simpa using rx)
  · exact .inr (.inr (.inr (add_lists s rx ry h)))
theorem dSub_ok : OpS K dSub (rI0 fun i j => .int (i - j)) := fun Wk ρ S H x y dx dy Q s rx ry h => by
  unfold dSub at h
  split at h
  · cases rx; cases ry
    exact ⟨_, _, rfl, rfl, h.here s (.int _)⟩
  · exact h.elim
def rMulR (K : PySem.W.Frag) : R2 := fun x y H Q => rI CMul (fun i j => .int (i * j)) x y H Q ∨ rRepT K x y H Q
theorem dMul_ok : OpS K dMul (rMulR K) := fun Wk ρ S H x y dx dy Q s rx ry h => by
  unfold dMul at h
  split at h
  · cases rx; cases ry
    obtain ⟨hc, h⟩ := guardR_post h
    exact .inl ⟨_, _, rfl, rfl, hc, h.here s (.int _)⟩
  · obtain ⟨⟨h1, h2, h3, h4⟩, h⟩ := guardR_post h
    cases ry
    obtain ⟨a, vs, rfl, ha, hs⟩ := tup_of rx
    refine .inr ⟨a, _, vs, rfl, rfl, ha, ?_, h2, h3, by rw [hs.length]; exact h4, h.newTup s (hs.rep _)⟩
    rintro rfl; cases hs; cases h1
  · exact h.elim
theorem dMod_ok : OpS K dMod (rI (fun _ j => 0 < j) fun i j => .int (i % j)) := fun Wk ρ S H x y dx dy Q s rx ry h => by
  unfold dMod at h
  split at h
  · cases rx; cases ry
    obtain ⟨hc, h⟩ := guardR_post h
    exact ⟨_, _, rfl, rfl, hc, h.here s (.int _)⟩
  · exact h.elim
theorem dFdiv_ok : OpS K dFdiv (rI CDiv fun i j => .int (i / j)) := fun Wk ρ S H x y dx dy Q s rx ry h => by
  unfold dFdiv at h
  split at h
  · cases rx; cases ry
    obtain ⟨hc, h⟩ := guardR_post h
    exact ⟨_, _, rfl, rfl, hc, h.here s (.int _)⟩
  · exact h.elim
theorem dPow_ok : OpS K dPow (rI CPow fun i j => .int (i ^ j.toNat)) := fun Wk ρ S H x y dx dy Q s rx ry h => by
  unfold dPow at h
  split at h
  · cases rx; cases ry
    obtain ⟨hc, h⟩ := guardR_post h
    exact ⟨_, _, rfl, rfl, hc, h.here s (.int _)⟩
  · exact h.elim
/-! ### comparisons -/
def dDat (c f : PyData → PyData → Bool) : D → D → Sto → R D := fun x y S => match toPy x S, toPy y S with
  | some p, some q => if c p q = true then .ok (.bl (f p q)) S else .bad
  | _, _ => .bad
def notNone : PyData → Bool
  | .none => false
  | _ => true
def plainB (p q : PyData) : Bool := p.plain && q.plain && decide (p.depth ≤ 64)
def alikeB (p q : PyData) : Bool := PySem.W.alike p q && notNone p && decide (p.depth ≤ 64)
def inB (p q : PyData) : Bool := p.plain && decide (p.depth ≤ 64) && match q with
  | .list xs => PyData.plainAll xs
  | .tuple xs => PyData.plainAll xs
  | _ => false
abbrev dEq := dDat plainB PyData.eqv
abbrev dNe := dDat plainB fun p q => !PyData.eqv p q
abbrev dLt := dDat alikeB fun p q => PySem.W.dataLt p q
abbrev dGt := dDat alikeB fun p q => PySem.W.dataLt q p
abbrev dLe := dDat alikeB fun p q => !PySem.W.dataLt q p
abbrev dGe := dDat alikeB fun p q => !PySem.W.dataLt p q
abbrev dInL := dDat inB inPy
abbrev dNotInL := dDat inB fun p q => !inPy p q
theorem dDat_ok {X : Cx} {C : PyData → PyData → Prop} {c f : PyData → PyData → Bool} (hc : ∀ p q, c p q = true → C p q) : OpS X.K (dDat c f) (rDat X C f) := fun Wk ρ S H x y dx dy Q s rx ry h => by
  unfold dDat at h
  split at h
  · rename_i p q h1 h2
    split at h
    · exact ⟨p, q, rdP_of s rx h1, rdP_of s ry h2, hc _ _ (by assumption), h.here s (.bl _)⟩
    · exact h.elim
  · exact h.elim
theorem plainB_C (p q : PyData) (h : plainB p q = true) : PlainC p q := by
  simp only [plainB, Bool.and_eq_true, decide_eq_true_eq] at h
  exact ⟨h.1.1, h.1.2, h.2⟩
theorem alikeB_C (p q : PyData) (h : alikeB p q = true) : AlikeC p q := by
  simp only [alikeB, Bool.and_eq_true, decide_eq_true_eq] at h
  exact ⟨h.1.1, by rintro rfl; simp [notNone] at h, h.2⟩
theorem inB_C (p q : PyData) (h : inB p q = true) : InC p q := by
  simp only [inB, Bool.and_eq_true, decide_eq_true_eq] at h
  refine ⟨h.1.1, h.1.2, ?_⟩
  cases q with
  | list xs => exact .inl ⟨xs, rfl, h.2⟩
  | tuple xs => exact .inr ⟨xs, rfl, h.2⟩
  | _ => exact absurd h.2 (by simp)
/-- is None, is not None -/
def isNon : D → Option Bool
  | .non => some true
  | .ob _ => none
  | _ => some false
def dIsN (neg : Bool) : D → D → Sto → R D := fun x y S => match y with
  | .non => ofO ((isNon x).map fun b => .bl (if neg then !b else b)) S
  | _ => .bad
theorem isNon_of {ρ : Pl} {H : Hp} {v : V} {d : D} {b : Bool} (r : VR K ρ H v d) (h : isNon d = some b) : decide (v = .non) = b := by
  cases r <;> simp only [isNon, Option.some.injEq] at h <;> first | (subst h; rfl) | (subst h; exact decide_eq_false (fun q => nomatch q)) | cases h
theorem dIs_ok : OpS K (dIsN false) (fun x y H Q => y = .non ∧ Q (.bl (decide (x = .non))) H) := fun Wk ρ S H x y dx dy Q s rx ry h => by
  unfold dIsN at h
  split at h
  · cases ry
    obtain ⟨z, e, p⟩ := ofO_post h
    simp only [Option.map_eq_some_iff] at e
    obtain ⟨b, e1, rfl⟩ := e
    refine ⟨rfl, ?_⟩
    rw [isNon_of rx e1]
    exact p.here s (.bl _)
  · exact h.elim
theorem dIsNot_ok : OpS K (dIsN true) (fun x y H Q => y = .non ∧ Q (.bl (!decide (x = .non))) H) := fun Wk ρ S H x y dx dy Q s rx ry h => by
  unfold dIsN at h
  split at h
  · cases ry
    obtain ⟨z, e, p⟩ := ofO_post h
    simp only [Option.map_eq_some_iff] at e
    obtain ⟨b, e1, rfl⟩ := e
    refine ⟨rfl, ?_⟩
    rw [isNon_of rx e1]
    exact p.here s (.bl _)
  · exact h.elim
/-! ### items, slices -/
def seqR : D → Sto → Option (List D)
  | .tup ds, _ => some ds
  | d, S => listR d S
def dIx : D → D → Sto → R D
  | .str x, .int i, S => guardR (x.length ≤ sizeLine) (ofO ((atI x.cps.toList i).map fun c => .str ⟨#[c]⟩) S)
  | d, .int i, S => match seqR d S with
    | some ds => ofO (atI ds i) S
    | none => .bad
  | _, _, _ => .bad
theorem atI_of {ρ : Pl} {H : Hp} {vs : List V} {ds : List D} {i : Int} {d : D} (h : VRs K ρ H vs ds) (e : atI ds i = some d) : ∃ v, atI vs i = some v ∧ VR K ρ H v d := by
  unfold atI at e ⊢
  rw [h.length]
  cases q : ixN ds.length i with
  | none => rw [q] at e; cases e
  | some j => rw [q] at e; exact h.get e
theorem seqR_of {ρ : Pl} {H : Hp} {S : Sto} {v : V} {d : D} {ds : List D} (s : SR K ρ S H) (r : VR K ρ H v d) (h : seqR d S = some ds) : ∃ a xs, v = .ref a ∧ (SqL K H a xs ∨ SqT K H a xs) ∧ VRs K ρ H xs ds := by
  cases d with
  | tup es =>
    simp only [seqR, Option.some.injEq] at h
    subst h
    obtain ⟨a, xs, e, h1, h2⟩ := tup_of r
    exact ⟨a, xs, e, .inr h1, h2⟩
  | _ =>
    obtain ⟨a, xs, e, h1, h2⟩ := listR_of s r h
    exact ⟨a, xs, e, .inl h1, h2⟩
theorem dIx_ok : OpS K dIx (rIx K) := fun Wk ρ S H x y dx dy Q s rx ry h => by
  unfold dIx at h
  split at h
  · cases rx; cases ry
    obtain ⟨hz, h⟩ := guardR_post h
    obtain ⟨z, e, p⟩ := ofO_post h
    simp only [Option.map_eq_some_iff] at e
    obtain ⟨c, e1, rfl⟩ := e
    exact .inr (.inr ⟨_, _, c, rfl, rfl, hz, e1, p.here s (.str _)⟩)
  · cases ry
    split at h
    · rename_i ds e
      obtain ⟨z, e1, p⟩ := ofO_post h
      obtain ⟨a, xs, rfl, h1, h2⟩ := seqR_of s rx e
      obtain ⟨v, k1, k2⟩ := atI_of h2 e1
      rcases h1 with h1 | h1
      · exact .inl ⟨a, xs, _, v, rfl, rfl, h1, k1, p.here s k2⟩
      · exact .inr (.inl ⟨a, xs, _, v, rfl, rfl, h1, k1, p.here s k2⟩)
    · exact h.elim
  · exact h.elim
def cutD (ds : List D) (lo hi : Option Int) : List D := (ds.drop (HT.sIx ds.length 0 lo)).take (HT.sIx ds.length ds.length hi - HT.sIx ds.length 0 lo)
theorem VRs.cut {ρ : Pl} {H : Hp} {vs : List V} {ds : List D} (h : VRs K ρ H vs ds) (lo hi : Option Int) : VRs K ρ H (cutV vs lo hi) (cutD ds lo hi) := by
  unfold cutV cutD
  rw [h.length]
  exact (h.drop _).take _
def dSl (d : D) (lo hi : Option Int) (S : Sto) : R D := match d with
  | .tup ds => .ok (.tup (cutD ds lo hi)) S
  | .str x => guardR (x.length ≤ sizeLine) (.ok (.str (cutS x lo hi)) S)
  | d => match listR d S with
    | some ds => .ok (.lst (cutD ds lo hi)) S
    | none => .bad
end

section
variable {X : Cx} {W : WX} {e a b : Expr} {m ma mb : ME} {pos p2 : Pos}
theorem z_ix (ha : PE X a (Em X.K W ma)) (hb : PE X b (Em X.K W mb)) (hs : PlainIx b := by exact fun _ _ => rfl) : PE X (.Subscript a b pos) (Em X.K W (mBin dIx ma mb)) :=
  PE_imp (pe_ix ix_seq ha hb hs) fun σ H Q h => Em_op dIx_ok h
end
end Z

/-! Z7: slices, built-in calls, methods of lists, stores, while. -/
namespace Z
open PySem L2

/-! ### slices -/
def mPart : Option ME → Tau → Sto → R (Option Int)
  | none, _, S => .ok none S
  | some m, τ, S => (m τ S).bind fun d S1 => match d with
    | .int i => .ok (some i) S1
    | _ => .bad
abbrev relO : Pl → Hp → Option Int → Option Int → Prop := fun _ _ b b' => b = b'
def Om (K : PySem.W.Frag) (W : WX) (m : Option ME) : TO := fun σ H Q => ∃ ρ τ S, SR K ρ S H ∧ ER K ρ H τ σ ∧ Post K (fun c d H' => W c d σ H') ρ H (mPart m τ S) relO Q
def mSl (m : ME) (lo hi : Option ME) : ME := fun τ S => (m τ S).bind fun d S1 => (mPart lo τ S1).bind fun l S2 => (mPart hi τ S2).bind fun h S3 => dSl d l h S3
section
variable {X : Cx} {W : WX} {e a b : Expr} {m ma mb : ME} {pos p2 : Pos}
theorem PO_imp {X : Cx} {e : Option Expr} {t t' : TO} (h : PO X e t) (k : ∀ σ H Q, t' σ H Q → t σ H Q) : PO X e t' := ⟨fun pins s σ H Q I w => h.run pins s σ H Q I (k σ H Q w)⟩
theorem o_none : PO X none (Om X.K W none) := PO_imp po_none fun σ H Q ⟨ρ, τ, S, s, r, p⟩ => p.here s rfl
theorem o_some (he : PE X e (Em X.K W m)) : PO X (some e) (Om X.K W (some m)) := PO_imp (po_some he) fun σ H Q ⟨ρ, τ, S, s, r, p⟩ => by
  refine Em_bind s r p fun ρ1 H1 S1 v d s1 r1 e1 v1 p1 => ?_
  split at p1
  · cases v1
    exact ⟨_, rfl, p1.here s1 rfl⟩
  · exact p1.elim
def rSl (K : PySem.W.Frag) : V → Option Int → Option Int → Hp → VK → Prop := fun x lo hi H Q => rSlA K x lo hi H Q ∨ rSlL K x lo hi H Q ∨ rSlS x lo hi H Q
theorem dSl_ok {K : PySem.W.Frag} {Wk : XK} {ρ : Pl} {S : Sto} {H : Hp} {x : V} {d : D} {lo hi : Option Int} {Q : VK} (s : SR K ρ S H) (r : VR K ρ H x d) (h : Post K Wk ρ H (dSl d lo hi S) (VR K) Q) : rSl K x lo hi H Q := by
  unfold dSl at h
  split at h
  · rename_i ds
    obtain ⟨a, xs, rfl, h1, h2⟩ := tup_of r
    refine .inl ⟨a, xs, rfl, h1, fun w => ?_, fun _ => h.newTup s (h2.cut lo hi)⟩
    have e : cutD ds lo hi = ds := by
      unfold cutD
      rw [h2.length] at w
      rw [w.1, w.2]; simp
    rw [e] at h
    exact h.here s r
  · cases r
    obtain ⟨hz, h⟩ := guardR_post h
    exact .inr (.inr ⟨_, rfl, hz, h.here s (.str _)⟩)
  · split at h
    · rename_i ds e
      obtain ⟨a, xs, rfl, h1, h2⟩ := listR_of s r e
      exact .inr (.inl ⟨a, xs, rfl, h1, h.newLst s (h2.cut lo hi)⟩)
    · exact h.elim
theorem z_sl {lo hi : Option Expr} {ml mh : Option ME} (he : PE X e (Em X.K W m)) (hl : PO X lo (Om X.K W ml)) (hh : PO X hi (Om X.K W mh)) : PE X (.Subscript e (.Slice lo hi none p2) pos) (Em X.K W (mSl m ml mh)) :=
  PE_imp (pe_slice (r := rSl X.K) (sl_tupA.or (sl_list.or sl_str)) he hl hh) fun σ H Q ⟨ρ, τ, S, s, r, p⟩ => by
    refine Em_bind s r p fun ρ1 H1 S1 v d s1 r1 e1 v1 p1 => ?_
    refine ⟨ρ1, τ, S1, s1, r1, Post.bind p1 fun ρ2 H2 S2 l l' e2 s2 q2 p2 => ?_⟩
    have q2' : l = l' := q2
    subst q2'
    refine ⟨ρ2, τ, S2, s2, r1.mono e2, Post.bind p2 fun ρ3 H3 S3 u u' e3 s3 q3 p3 => ?_⟩
    have q3' : u = u' := q3
    subst q3'
    exact dSl_ok s3 ((v1.mono e2).mono e3) p3
end

/-! ### built-ins -/
def dLen : List D → Sto → R D
  | [.str x], S => guardR (x.length ≤ sizeLine) (.ok (.int x.length) S)
  | [d], S => match seqR d S with
    | some ds => .ok (.int ds.length) S
    | none => .bad
  | _, _ => .bad
section
variable {K : PySem.W.Frag}
theorem vrs1 {ρ : Pl} {H : Hp} {vs : List V} {d : D} (h : VRs K ρ H vs [d]) : ∃ v, vs = [v] ∧ VR K ρ H v d := by
  cases h with | cons h1 h2 => cases h2; exact ⟨_, rfl, h1⟩
theorem vrs2 {ρ : Pl} {H : Hp} {vs : List V} {d e : D} (h : VRs K ρ H vs [d, e]) : ∃ v w, vs = [v, w] ∧ VR K ρ H v d ∧ VR K ρ H w e := by
  cases h with | cons h1 h2 => cases h2 with | cons h2 h3 => cases h3; exact ⟨_, _, rfl, h1, h2⟩
theorem dLen_ok : CallS K dLen (fun xs H Q => ∃ x n, xs = [x] ∧ LenV K x H n ∧ Q (.int n) H) := fun Wk ρ S H vs ds Q s r h => by
  unfold dLen at h
  split at h
  · obtain ⟨v, rfl, r1⟩ := vrs1 r
    cases r1
    obtain ⟨hz, h⟩ := guardR_post h
    exact ⟨_, _, rfl, ⟨hz, rfl⟩, h.here s (.int _)⟩
  · obtain ⟨v, rfl, r1⟩ := vrs1 r
    split at h
    · rename_i es e
      obtain ⟨a, xs, rfl, h1, h2⟩ := seqR_of s r1 e
      refine ⟨.ref a, xs.length, rfl, ?_, h.here s (by rw [← h2.length]; exact .int _)⟩
      exact h1.imp (fun h => ⟨xs, h, rfl⟩) fun h => ⟨xs, h, rfl⟩
    · exact h.elim
  · exact h.elim
/-- isinstance(x, T), x data -/
def isaPy : String → PyData → Option Bool := fun T p =>
  if T = "int" then some p.isInt else if T = "bool" then some p.isBool else if T = "str" then some p.isStr else if T = "tuple" then some p.isTuple else if T = "list" then some p.isList else if T = "dict" then some p.isDict else none
def dIsa : List D → Sto → R D
  | [d, .ob (.ty T)], S => match toPy d S with
    | some p => ofO ((isaPy T p).map .bl) S
    | none => .bad
  | _, _ => .bad
def rIsaP (X : Cx) : List V → Hp → VK → Prop := fun vs H Q => ∃ x T p b, vs = [x, .ty T] ∧ RdP X H x p ∧ isaPy T p = some b ∧ Q (.bl b) H
theorem call_isaP {X : Cx} : CallR X (.builtin "isinstance") (rIsaP X) := by
  intro pins st σ H xs us Q I r ⟨x, T, p, b, e, hp, hb, h⟩
  subst e
  obtain ⟨u, w, rfl, r1, r2⟩ := vals2 r
  have r2' : w = .type T := r2
  subst r2'
  obtain ⟨as, hr⟩ := hp pins σ st u I r1
  have fin : ∀ tk, EP X pins σ Q (.bool b) { st with toks := tk } := fun tk => ⟨.bl b, H, I.tok tk, rfl, h⟩
  unfold isaPy at hb
  split at hb
  · rename_i e; subst e; cases hb; exact PySem.W.isinstance_int_data hr fun tk _ => fin tk
  · split at hb
    · rename_i e; subst e; cases hb; exact PySem.W.isinstance_bool_data hr fun tk _ => fin tk
    · split at hb
      · rename_i e; subst e; cases hb; exact PySem.W.isinstance_str_data hr fun tk _ => fin tk
      · split at hb
        · rename_i e; subst e; cases hb; exact PySem.W.isinstance_tuple_data hr fun tk _ => fin tk
        · split at hb
          · rename_i e; subst e; cases hb; exact PySem.W.isinstance_list_data hr fun tk _ => fin tk
          · split at hb
            · rename_i e; subst e; cases hb; exact PySem.W.isinstance_dict_data hr fun tk _ => fin tk
            · cases hb
theorem dIsa_ok {X : Cx} : CallS X.K dIsa (rIsaP X) := fun Wk ρ S H vs ds Q s r h => by
  unfold dIsa at h
  split at h
  · obtain ⟨v, w, rfl, r1, r2⟩ := vrs2 r
    cases r2
    split at h
    · rename_i p e
      obtain ⟨z, e1, p1⟩ := ofO_post h
      simp only [Option.map_eq_some_iff] at e1
      obtain ⟨b, e2, rfl⟩ := e1
      exact ⟨v, _, p, b, rfl, rdP_of s r1 e, e2, p1.here s (.bl _)⟩
    · exact h.elim
  · exact h.elim
/-- all(list of truths) -/
def boolsOf : List D → Option (List Bool)
  | [] => some []
  | .bl b :: ds => (boolsOf ds).map (b :: ·)
  | _ => none
def dAll : List D → Sto → R D
  | [d], S => match listR d S with
    | some ds => ofO ((boolsOf ds).map fun bs => .bl (bs.all id)) S
    | none => .bad
  | _, _ => .bad
theorem bools_of {ρ : Pl} {H : Hp} : ∀ {vs : List V} {ds : List D} {bs : List Bool}, VRs K ρ H vs ds → boolsOf ds = some bs → vs = bs.map V.bl
  | _, _, bs, .nil, h => by simp [boolsOf] at h; subst h; rfl
  | _, _, bs, .cons r rs, h => by
    cases r with
    | bl b =>
      simp only [boolsOf, Option.map_eq_some_iff] at h
      obtain ⟨cs, h1, rfl⟩ := h
      rw [bools_of rs h1]; rfl
    | _ => simp [boolsOf] at h
theorem dAll_ok : CallS K dAll (rAll K) := fun Wk ρ S H vs ds Q s r h => by
  unfold dAll at h
  split at h
  · obtain ⟨v, rfl, r1⟩ := vrs1 r
    split at h
    · rename_i es e
      obtain ⟨z, e1, p1⟩ := ofO_post h
      simp only [Option.map_eq_some_iff] at e1
      obtain ⟨bs, e2, rfl⟩ := e1
      obtain ⟨a, xs, rfl, h1, h2⟩ := listR_of s r1 e
      have := bools_of h2 e2
      subst this
      exact ⟨a, bs, rfl, h1, p1.here s (.bl _)⟩
    · exact h.elim
  · exact h.elim
def dInt : List D → Sto → R D
  | [.int i], S => .ok (.int i) S
  | [.bl b], S => .ok (.int (if b then 1 else 0)) S
  | _, _ => .bad
theorem dInt_ok : CallS K dInt (fun xs H Q => (∃ i, xs = [.int i] ∧ Q (.int i) H) ∨ ∃ k, xs = [.bl k] ∧ Q (.int (if k then 1 else 0)) H) := fun Wk ρ S H vs ds Q s r h => by
  unfold dInt at h
  split at h
  · obtain ⟨v, rfl, r1⟩ := vrs1 r
    cases r1
    exact .inl ⟨_, rfl, h.here s (.int _)⟩
  · obtain ⟨v, rfl, r1⟩ := vrs1 r
    cases r1
    exact .inr ⟨_, rfl, h.here s (.int _)⟩
  · exact h.elim
def dMax2 : List D → Sto → R D
  | [.int i, .int j], S => .ok (.int (if j > i then j else i)) S
  | _, _ => .bad
def dMin2 : List D → Sto → R D
  | [.int i, .int j], S => .ok (.int (if j < i then j else i)) S
  | _, _ => .bad
theorem dMax2_ok : CallS K dMax2 (fun xs H Q => ∃ i j, xs = [.int i, .int j] ∧ Q (.int (if j > i then j else i)) H) := fun Wk ρ S H vs ds Q s r h => by
  unfold dMax2 at h
  split at h
  · obtain ⟨v, w, rfl, r1, r2⟩ := vrs2 r
    cases r1; cases r2
    exact ⟨_, _, rfl, h.here s (.int _)⟩
  · exact h.elim
theorem dMin2_ok : CallS K dMin2 (fun xs H Q => ∃ i j, xs = [.int i, .int j] ∧ Q (.int (if j < i then j else i)) H) := fun Wk ρ S H vs ds Q s r h => by
  unfold dMin2 at h
  split at h
  · obtain ⟨v, w, rfl, r1, r2⟩ := vrs2 r
    cases r1; cases r2
    exact ⟨_, _, rfl, h.here s (.int _)⟩
  · exact h.elim
def dDivmod : List D → Sto → R D
  | [.int i, .int j], S => guardR (0 < j ∧ j < 1073741824) (.ok (.tup [.int (i / j), .int (i % j)]) S)
  | _, _ => .bad
theorem dDivmod_ok : CallS K dDivmod (fun xs H Q => ∃ i j, xs = [.int i, .int j] ∧ CDiv i j ∧ ∀ p, H p = none → Q (.ref p) (upd H p (.tup [.int (i / j), .int (i % j)]))) := fun Wk ρ S H vs ds Q s r h => by
  unfold dDivmod at h
  split at h
  · obtain ⟨v, w, rfl, r1, r2⟩ := vrs2 r
    cases r1; cases r2
    obtain ⟨hc, h⟩ := guardR_post h
    exact ⟨_, _, rfl, hc, h.newTup s (.cons (.int _) (.cons (.int _) .nil))⟩
  · exact h.elim
def dTuple : List D → Sto → R D
  | [.tup ds], S => .ok (.tup ds) S
  | [d], S => match listR d S with
    | some ds => .ok (.tup ds) S
    | none => .bad
  | _, _ => .bad
theorem dTuple_ok : CallS K dTuple (fun xs H Q => ∃ p ys, xs = [.ref p] ∧ ((SqL K H p ys ∧ ∀ l, H l = none → Q (.ref l) (upd H l (.tup ys))) ∨ (SqT K H p ys ∧ Q (.ref p) H))) := fun Wk ρ S H vs ds Q s r h => by
  unfold dTuple at h
  split at h
  · obtain ⟨v, rfl, r1⟩ := vrs1 r
    obtain ⟨a, xs, rfl, h1, h2⟩ := tup_of r1
    exact ⟨a, xs, rfl, .inr ⟨h1, h.here s r1⟩⟩
  · obtain ⟨v, rfl, r1⟩ := vrs1 r
    split at h
    · rename_i es e
      obtain ⟨a, xs, rfl, h1, h2⟩ := listR_of s r1 e
      exact ⟨a, xs, rfl, .inl ⟨h1, h.newTup s h2⟩⟩
    · exact h.elim
  · exact h.elim
def dList : List D → Sto → R D
  | [d], S => match seqR d S with
    | some ds => .ok (.lst ds) S
    | none => .bad
  | _, _ => .bad
/-- a list that will be changed -/
def dListN : List D → Sto → R D
  | [d], S => match seqR d S with
    | some ds => .ok (.loc S.length) (S ++ [.lst ds])
    | none => .bad
  | _, _ => .bad
theorem dList_ok : CallS K dList (fun xs H Q => ∃ p ys, xs = [.ref p] ∧ (SqL K H p ys ∨ SqT K H p ys) ∧ ∀ l, H l = none → Q (.ref l) (upd H l (.lst ys))) := fun Wk ρ S H vs ds Q s r h => by
  unfold dList at h
  split at h
  · obtain ⟨v, rfl, r1⟩ := vrs1 r
    split at h
    · rename_i es e
      obtain ⟨a, xs, rfl, h1, h2⟩ := seqR_of s r1 e
      exact ⟨a, xs, rfl, h1, h.newLst s h2⟩
    · exact h.elim
  · exact h.elim
theorem dListN_ok : CallS K dListN (fun xs H Q => ∃ p ys, xs = [.ref p] ∧ (SqL K H p ys ∨ SqT K H p ys) ∧ ∀ l, H l = none → Q (.ref l) (upd H l (.lst ys))) := fun Wk ρ S H vs ds Q s r h => by
  unfold dListN at h
  split at h
  · obtain ⟨v, rfl, r1⟩ := vrs1 r
    split at h
    · rename_i es e
      obtain ⟨a, xs, rfl, h1, h2⟩ := seqR_of s r1 e
      exact ⟨a, xs, rfl, h1, h.newLoc s h2⟩
    · exact h.elim
  · exact h.elim
/-! ### repr -/
def reprOk (p : PyData) : Bool := p.showable && decide (p.depth ≤ 64) && decide (p.shown.length ≤ sizeLine)
def dRepr : List D → Sto → R D
  | [d], S => match toPy d S with
    | some p => if (reprOk p && (!p.hasDict || noList d)) = true then .ok (.str p.shown) S else .bad
    | none => .bad
  | _, _ => .bad
def rReprP (X : Cx) : List V → Hp → VK → Prop := fun vs H Q => ∃ x p, vs = [x] ∧ ((RdP X H x p ∧ p.hasDict = false) ∨ RdS X H x p) ∧ reprOk p = true ∧ Q (.str p.shown) H
theorem call_reprP {X : Cx} (hu : X.A.units + 100 < cLine) (hg : X.A.guards = some []) : CallR X (.builtin "repr") (rReprP X) := by
  intro pins st σ H xs us Q I r ⟨x, p, e, hp, hk, h⟩
  subst e
  obtain ⟨u, rfl, r1⟩ := vals1 r
  simp only [reprOk, Bool.and_eq_true, decide_eq_true_eq] at hk
  obtain ⟨⟨k1, k2⟩, k3⟩ := hk
  obtain ⟨as, hr, hs⟩ : ∃ as, Reads st.heap u p as ∧ (p.hasDict = true → sysModules ∉ as) := by
    rcases hp with ⟨hp, hd⟩ | hp
    · obtain ⟨as, hr⟩ := hp pins σ st u I r1
      exact ⟨as, hr, fun z => by rw [hd] at z; cases z⟩
    · obtain ⟨as, hr, hs⟩ := hp pins σ st u I r1
      exact ⟨as, hr, fun _ => hs⟩
  have fin : ∀ h' tk, (∀ b o, st.heap.get? b = some o → h'.get? b = some o) → ∀ t, EP X pins σ Q (.str p.shown t) { st with heap := h', toks := tk } := fun h' tk k t => ⟨.str p.shown, H, I.kept k, ⟨t, rfl⟩, h⟩
  cases hr with
  | none => exact P.repr_of_none (fin st.heap _ (fun _ _ e => e) _)
  | bool b => exact P.repr_of_bool (by
      have := fin st.heap (st.toks + 1) (fun _ _ e => e) st.toks
      simpa only [PyData.shown] using this)
  | int i t =>
    simp only [PyData.showable, decide_eq_true_eq] at k1
    exact P.repr_of_int k1 (by
      have := fin st.heap (st.toks + 1) (fun _ _ e => e) st.toks
      simpa only [PyData.shown] using this)
  | str z t =>
    refine P.repr_of_str (by
      have := fin st.heap (st.toks + 1) (fun _ _ e => e) st.toks
      simpa only [PyData.shown] using this) (by simpa only [PyData.shown] using k3)
  | list h1 h2 h3 h4 => exact repr_of_reads' (.list h1 h2 h3 h4) k1 hs hg (by omega) (fun _ _ e => e) (fun h' t tk k => fin h' tk k t) k3
  | tuple h1 h2 h3 h4 => exact repr_of_reads' (.tuple h1 h2 h3 h4) k1 hs hg (by omega) (fun _ _ e => e) (fun h' t tk k => fin h' tk k t) k3
  | dict h1 h2 h3 h4 h5 => exact repr_of_reads' (.dict h1 h2 h3 h4 h5) k1 hs hg (by omega) (fun _ _ e => e) (fun h' t tk k => fin h' tk k t) k3
theorem dRepr_ok {X : Cx} : CallS X.K dRepr (rReprP X) := fun Wk ρ S H vs ds Q s r h => by
  unfold dRepr at h
  split at h
  · obtain ⟨v, rfl, r1⟩ := vrs1 r
    split at h
    · rename_i p e
      split at h
      · rename_i c
        simp only [Bool.and_eq_true, Bool.or_eq_true, Bool.not_eq_true'] at c
        refine ⟨v, p, rfl, ?_, c.1, h.here s (.str _)⟩
        rcases c.2 with c | c
        · exact .inl ⟨rdP_of s r1 e, c⟩
        · refine .inr (rdS_of r1 ?_ c)
          rename_i d _ _
          cases d with
          | loc l => simp [noList] at c
          | _ => exact e
      · exact h.elim
    · exact h.elim
  · exact h.elim
end
end Z

/-! Z8: methods of lists, stores into lists, empty dicts, defs by their bodies, the law's end. -/
namespace Z
open PySem L2

/-! ### methods of built-in types -/
def isTy (T : String) : D → Sto → Bool
  | .lst _, _ => T == "list"
  | .scr _, _ => T == "list"
  | .str _, _ => T == "str"
  | .dct _ _, _ => T == "dict"
  | .loc l, S => match S[l]? with
    | some (.lst _) => T == "list"
    | some (.dK false _) => T == "dict"
    | some (.dT false _) => T == "dict"
    | _ => false
  | _, _ => false
theorem isTy_of {K : PySem.W.Frag} {ρ : Pl} {H : Hp} {S : Sto} {v : V} {d : D} {T : String} (s : SR K ρ S H) (r : VR K ρ H v d) (h : isTy T d S = true) : tyV K T v H := by
  cases r with
  | lst h1 h2 hs => exact .inl ⟨by simpa [isTy] using h, _, SqL.of h1⟩
  | scr h1 hs =>
    obtain ⟨a, xs, e, k1, k2⟩ := listR_of s (VR.scr h1 hs) rfl
    cases e
    exact .inl ⟨by simpa [isTy] using h, _, k1⟩
  | str x => exact (by simpa [isTy] using h : T = "str")
  | dct h1 h2 hk hs => exact .inr (.inr (.inl ⟨by simpa [isTy] using h, .inl ⟨_, h1⟩⟩))
  | @loc a l hl =>
    simp only [isTy] at h
    split at h
    · rename_i ds e
      obtain ⟨xs, k1, k2⟩ := s.at hl e
      exact .inl ⟨by simpa using h, _, SqL.of k1⟩
    · rename_i kvs e
      obtain ⟨ws, k1, k2⟩ := s.at hl e
      exact .inr (.inr (.inl ⟨by simpa using h, .inl ⟨_, k1⟩⟩))
    · rename_i kvs e
      obtain ⟨ws, k1, k2⟩ := s.at hl e
      exact .inr (.inr (.inl ⟨by simpa using h, .inr ⟨_, k1⟩⟩))
    · cases h
  | _ => simp [isTy] at h
def MethS (K : PySem.W.Frag) (f : D → List D → Sto → R D) (r : V → List V → Hp → VK → Prop) : Prop := ∀ (Wk : XK) (ρ : Pl) (S : Sto) (H : Hp) (v : V) (d : D) (vs : List V) (ds : List D) (Q : VK), SR K ρ S H → VR K ρ H v d → VRs K ρ H vs ds → Post K Wk ρ H (f d ds S) (VR K) Q → r v vs H Q
def mMeth (T : String) (f : D → List D → Sto → R D) (m : ME) (ms : MA) : ME := fun τ S => (m τ S).bind fun o S1 => if isTy T o S1 = true then (ms τ S1).bind fun xs S2 => f o xs S2 else .bad
section
variable {X : Cx} {W : WX} {o e : Expr} {es : List Expr} {m : ME} {ms : MA} {name : Str} {apos cpos : Pos} {T id : String} {r : V → List V → Hp → VK → Prop} {f : D → List D → Sto → R D}
theorem z_meth (pa : PlainAttrs T) (slot : Slot T name id) (hty : typeOf (.builtin id) = pure (.type "method_descriptor")) (hm : MtR X id r) (hs : MethS X.K f r) (ho : PE X o (Em X.K W m)) (ha : PA X (e :: es) (Am X.K W ms))
    (h : PE X (.Call (.Attribute o name apos) (e :: es) [] cpos) (tBM X.K T r (Em X.K W m) (Am X.K W ms))) : PE X (.Call (.Attribute o name apos) (e :: es) [] cpos) (Em X.K W (mMeth T f m ms)) := PE_imp h fun σ H Q ⟨ρ, τ, S, s, er, p⟩ => by
  refine Em_bind s er p fun ρ1 H1 S1 v d s1 r1 e1 v1 p1 => ?_
  split at p1
  · rename_i c
    refine ⟨isTy_of s1 v1 c, Am_bind s1 r1 p1 fun ρ2 H2 S2 vs ds s2 r2 e2 v2 p2 => hs _ ρ2 S2 H2 v d vs ds Q s2 (v1.mono e2) v2 p2⟩
  · exact p1.elim
theorem z_meth0 (pa : PlainAttrs T) (slot : Slot T name id) (hty : typeOf (.builtin id) = pure (.type "method_descriptor")) (hm : MtR X id r) (hs : MethS X.K f r) (ho : PE X o (Em X.K W m))
    (h : PE X (.Call (.Attribute o name apos) [] [] cpos) (tBM0 X.K T r (Em X.K W m))) : PE X (.Call (.Attribute o name apos) [] [] cpos) (Em X.K W (mMeth T f m aNil)) := PE_imp h fun σ H Q ⟨ρ, τ, S, s, er, p⟩ => by
  refine Em_bind s er p fun ρ1 H1 S1 v d s1 r1 e1 v1 p1 => ?_
  split at p1
  · rename_i c
    exact ⟨isTy_of s1 v1 c, hs _ ρ1 S1 H1 v d [] [] Q s1 v1 .nil p1⟩
  · exact p1.elim
/-- xs.append(e) -/
def dAppend : D → List D → Sto → R D
  | .loc l, [y], S => match S[l]? with
    | some (.lst ds) => guardR (ds.length < sizeLine) (.ok .non (S.set l (.lst (ds ++ [y]))))
    | _ => .bad
  | _, _, _ => .bad
/-- a list of the store is changed -/
theorem setLst {K : PySem.W.Frag} {Wk : XK} {ρ : Pl} {S : Sto} {H : Hp} {l : Nat} {a : Addr} {d : D} {v : V} {ys : List V} {es : List D} {Q : VK} (s : SR K ρ S H) (hl : ρ.loc[l]? = some a) (rs : VRs K ρ H ys es) (rv : VR K ρ H v d)
    (h : Post K Wk ρ H (.ok d (S.set l (.lst es))) (VR K) Q) : Q v (upd H a (.lst ys)) :=
  h ρ _ v (Ext.set hl) (s.set hl ⟨ys, upd_same, rs.mono (Ext.set hl)⟩) (rv.mono (Ext.set hl))
theorem dAppend_ok {K : PySem.W.Frag} : MethS K dAppend rAppend := fun Wk ρ S H v d vs ds Q s r rs h => by
  unfold dAppend at h
  split at h
  · obtain ⟨y, rfl, ry⟩ := vrs1 rs
    split at h
    · rename_i es e
      obtain ⟨hz, h⟩ := guardR_post h
      cases r with
      | @loc a _ hl =>
        obtain ⟨xs, k1, k2⟩ := s.at hl e
        exact ⟨a, xs, y, rfl, rfl, k1, by rw [k2.length]; exact hz, setLst s hl (k2.append (.cons ry .nil)) .non h⟩
    · exact h.elim
  · exact h.elim
theorem z_append (ho : PE X o (Em X.K W m)) (ha : PA X [e] (Am X.K W ms)) (h : PE X (.Call (.Attribute o "append" apos) [e] [] cpos) (tBM X.K "list" rAppend (Em X.K W m) (Am X.K W ms))) :
    PE X (.Call (.Attribute o "append" apos) [e] [] cpos) (Em X.K W (mMeth "list" dAppend m ms)) := z_meth PySem.F.plainAttrs_list PySem.F.slot_list_append PySem.F.type_list_append mt_append dAppend_ok ho ha h
/-! ### a[i] = e -/
def sSub (o i v : ME) : MS := fun τ S => liftS (v τ S) τ fun y S1 => liftS (o τ S1) τ fun a S2 => liftS (i τ S2) τ fun k S3 => match a, k with
  | .loc l, .int n => match S3[l]? with
    | some (.lst ds) => match ixN ds.length n with
      | some j => .nx τ (S3.set l (.lst (ds.set j y)))
      | none => .bad
    | _ => .bad
  | _, _ => .bad
theorem s_sub {i v : Expr} {mo mi mv : ME} {pos pos' : Pos} (ho : PE X o (Em X.K W mo)) (hi : PE X i (Em X.K W mi)) (hv : PE X v (Em X.K W mv))
    (h : PS X (.Assign [.Subscript o i pos'] v pos) (tAsg (Em X.K W mv) (gSub (Em X.K W mo) (Em X.K W mi) rSetL))) : PS X (.Assign [.Subscript o i pos'] v pos) (Sm X.K W (sSub mo mi mv)) := PS_imp h fun D σ H ⟨ρ, τ, S, s, r, p⟩ => by
  refine Em_S (k := fun _ _ => .bad) s r p fun ρ1 H1 S1 y dy s1 r1 e1 v1 p1 => ?_
  refine Em_S (k := fun _ _ => .bad) s1 r1 p1 fun ρ2 H2 S2 a da s2 r2 e2 v2 p2 => ?_
  refine Em_S (k := fun _ _ => .bad) s2 r2 p2 fun ρ3 H3 S3 k dk s3 r3 e3 v3 p3 => ?_
  split at p3
  · cases v3
    split at p3
    · rename_i ds e
      split at p3
      · rename_i j ej
        cases v2 with
        | @loc b l hl =>
          have hl3 := e3.get hl
          obtain ⟨xs, k1, k2⟩ := s3.at hl3 e
          refine ⟨b, xs, _, j, rfl, rfl, k1, by rw [k2.length]; exact ej, ?_⟩
          have y3 := (v1.mono e2).mono e3
          exact p3 ρ3 σ _ (Ext.set hl3) (s3.set hl3 ⟨_, upd_same, (k2.set y3 j).mono (Ext.set hl3)⟩) (r3.mono (Ext.set hl3))
      · exact p3.elim
    · exact p3.elim
  · exact p3.elim
/-! ### {} -/
def mDct0 : ME := fun _ S => .ok (.dct [] []) S
def mDctN : ME := fun _ S => .ok (.loc S.length) (S ++ [.dK false []])
def mDctT : ME := fun _ S => .ok (.loc S.length) (S ++ [.dT false []])
variable {pos : Pos}
theorem z_dict0 : PE X (.Dict [] [] pos) (Em X.K W mDct0) := PE_imp pe_dnewK fun σ H Q ⟨ρ, τ, S, s, r, p⟩ => fun q hq => p ρ _ _ (Ext.fresh hq) (s.laid hq) (.dct upd_same (s.fresh hq) rfl .nil)
theorem z_dictN : PE X (.Dict [] [] pos) (Em X.K W mDctN) := PE_imp pe_dnewK fun σ H Q ⟨ρ, τ, S, s, r, p⟩ => fun q hq => p (ρ.push q) _ _ (Ext.push hq) (s.push hq ⟨[], upd_same, .nil⟩) (.loc (Pl.push_get s))
theorem z_dictT : PE X (.Dict [] [] pos) (Em X.K W mDctT) := PE_imp pe_dnewT fun σ H Q ⟨ρ, τ, S, s, r, p⟩ => fun q hq => p (ρ.push q) _ _ (Ext.push hq) (s.push hq ⟨[], upd_same, .nil⟩) (.loc (Pl.push_get s))
end

/-! ### a def by its body -/
/-- the body run on the arguments, N slots in all -/
def runD (n N : Nat) (b : MS) : List D → Sto → R D := fun ds S => if ds.length = n then (match b (ds.map some ++ List.replicate (N - ds.length) none) S with
  | .rt d S' => .ok d S'
  | .nx _ S' => .ok .non S'
  | .ex _ c fs S' => .ex c fs S'
  | _ => .bad) else .bad
theorem er_start {K : PySem.W.Frag} {ρ : Pl} {H : Hp} {vs : List V} {ds : List D} {N : List Str} (r : VRs K ρ H vs ds) : ER K ρ H (ds.map some ++ List.replicate (N.length - ds.length) none) (L2.start N vs) := by
  unfold L2.start
  refine ⟨by simp [r.length], fun i d h => ?_⟩
  by_cases hi : i < ds.length
  · rw [List.getElem?_append_left (by simpa using hi), List.getElem?_map] at h
    cases q : ds[i]? with
    | none => rw [q] at h; cases h
    | some e =>
      rw [q] at h
      cases h
      obtain ⟨v, h1, h2⟩ := r.get q
      refine ⟨v, ?_, h2⟩
      rw [List.getElem?_append_left (by simp [r.length, hi]), List.getElem?_map, h1]; rfl
  · rw [List.getElem?_append_right (by simpa using hi)] at h
    rw [List.getElem?_replicate] at h
    split at h <;> cases h
section
variable {P : Program} {w : World} {K : PySem.W.Frag} {mg : Str → Option Value} {base : Heap}
/-- the context of a body -/
abbrev bodyCx (P : Program) (w : World) (K : PySem.W.Frag) (mg : Str → Option Value) (base : Heap) (N : List Str) (qual : Str) (st : Stmt) (g : Addr) (cdv : Value) (A : Around) (fs : List Env) (s : Shared) (H : Hp) (E : XK) : Cx := cxOf (L2.CX P w) P w K mg base N qual (defScope st) g cdv A fs s H E
theorem fnG_of {x qual : Str} {st : Stmt} {g : Addr} {fd : FuncData} {N ps : List Str} {k n : Nat} {b : MS} (F : Fun K x qual st g fd) (Sc : FnScope N ps (defScope st)) (hn : ps.length = n)
    (hb : ∀ (cdv : Value) (A : Around) (fs : List Env) (s : Shared) (H : Hp) (E : XK), Room k (bodyCx P w K mg base N qual st g cdv A fs s H E).A → (bodyCx P w K mg base N qual st g cdv A fs s H E).A.guards = some [] →
      PSs (bodyCx P w K mg base N qual st g cdv A fs s H E) (defBody st) (Sm K (fun c d _ H' => E c d H') b)) :
    FnG P w K mg base (k + 1) g fd ps (runD n N.length b) := by
  refine ⟨fun ds S h => ?_, ?_⟩
  · unfold runD at h
    split at h
    · omega
    · exact absurd rfl h
  intro A fs s H ar us vs Q E hr hg e0 hbd hv hsf
  obtain ⟨oc, od, kV, doc, pm, an, cdv, ct, osl, rfl, lk, hcd⟩ := F.ex
  obtain ⟨ρ, S, ds, sr, dv, po⟩ := hsf
  unfold runD at po
  split at po
  case isFalse => exact po.elim
  rename_i hlen
  have hlv : vs.length = ps.length := by rw [dv.length, hn]; exact hlen
  have KX : K.In s.heap := e0.mod.kin.keeps fun b o e => (e0.bs b o e).1
  have lim : s.heap.NoLimit := e0.mod.nolimit.keeps fun b o e => (e0.bs b o e).1
  have hkind : ∀ y ∈ ps.zip us, (defScope st).names.lookup y.1 = some .local ∨ ((defScope st).names.lookup y.1 = some .cell ∧ ((cellsFrom (s.heap.objs.size + 1) (defScope st).names []).lookup y.1).isSome = true) := by
    rintro ⟨nm, u⟩ hy
    rcases Sc.par nm (List.of_mem_zip hy).1 with q | q
    · exact .inl q
    · exact .inr ⟨q, PySem.W.cellsFrom_some _ _ _ (.inl q)⟩
  refine codeAny_call_function hr.depth (KX _ _ lk) rfl Sc.co Sc.gen rfl (PySem.W.codeRec_of KX hcd) (hbd _ _ _ _ ?_)
  refine wpAny_newFunctionEnv_cells Sc.kind hkind ?_
  intro env he s1 ic
  subst he
  refine ⟨lim.keeps ic.toInCall.keep, codeAny_func ?_⟩
  have body := hb cdv A fs s H E (hr.deeper _) hg
  have I := inv_start (CX := L2.CX P w) (E := E) Sc hr.hd e0 hlv hv ic
  refine wpAny_mono (body.run [] s1 (L2.start N vs) H { nx := fun _ H' => Q .non H', rt := Q } I ?_) ?_ fun _ _ z => z
  · refine ⟨ρ, _, S, sr, er_start dv, ?_⟩
    cases q : b (ds.map some ++ List.replicate (N.length - ds.length) none) S with
    | rt d S' => rw [q] at po; exact po
    | nx τ' S' => rw [q] at po; exact fun ρ' σ' H' e' s' _ => po ρ' H' .non e' s' .non
    | ex τ' c fs2 S' => rw [q] at po; exact fun ρ' σ' H' dd e' s' _ x' => po ρ' H' dd e' s' x'
    | bk τ' S' => rw [q] at po; exact po.elim
    | ct τ' S' => rw [q] at po; exact po.elim
    | bad => rw [q] at po; exact po.elim
  · intro fl s' hs
    have fin : ∀ {σ' : St} {H' : Hp} {v : V} {u : Value}, Inv (bodyCx P w K mg base N qual st g cdv A fs s H E) [] σ' H' s' → RelV v u → Q v H' → CE fs P w H s Q u s' :=
      fun {σ' H' v u} J rv q => ⟨v, H', J.os, J.bare, J.base, J.hok, rv, q⟩
    match fl, hs with
    | .ret u, ⟨v, σ', H', J, rv, q⟩ => exact fin J rv q
    | .next, ⟨σ', H', J, q⟩ => exact fin (v := .non) (u := .none) J rfl q
    | .brk, ⟨_, _, _, q⟩ => exact q.elim
    | .cont, ⟨_, _, _, q⟩ => exact q.elim
end

/-! ### the law's end -/
section
open PySem.Spec PyProof.Rows
/-- a heap in which the script alone is told, if it is no object of the text -/
def seeOnly (a : Addr) (o : Option HO) : Hp := fun b => if b = a then o else none
theorem seeOnly_some {a b : Addr} {o : Option HO} {u : HO} (h : seeOnly a o b = some u) : b = a ∧ o = some u := by
  unfold seeOnly at h
  split at h
  · exact ⟨by assumption, h⟩
  · cases h
theorem sr_empty {K : PySem.W.Frag} {H : Hp} : SR K ⟨[], []⟩ [] H := ⟨rfl, List.nodup_nil, fun _ h => absurd h (by simp), fun l c h => absurd h (by simp)⟩
/-- the script as it stands at the call -/
structure Script (P : Program) (w : World) (K : PySem.W.Frag) (h : Heap) (a : Addr) (ns : List Int) (o : Option HO) : Prop where
  ok : HOk P w (seeOnly a o) h
  vr : VR K ⟨[], []⟩ (seeOnly a o) (.ref a) (.scr (ns.map D.int))
  free : o ≠ none → K.lookup a = none
  frz : ∀ u, o = some u → ∃ ob xs, u = .frz ob (.lst xs) ∧ h.get? a = some ob
  seq : ∃ ob its n, h.get? a = some ob ∧ ob.data = .seq its n
theorem script_stands {P : Program} {w : World} {K : PySem.W.Frag} {h : Heap} {a : Addr} {vs : List Value} {ns : List Int} (KX : K.In h) (ha : h.get? a = some { cls := .type "list", data := .seq vs.toArray }) (hi : IntsAre vs ns) (hl : ns.length ≤ sizeLine) : ∃ o, Script P w K h a ns o := by
  have rv := vals_ints hi
  have hlen := hi.length
  cases q : K.lookup a with
  | some ob =>
    have e := KX a ob q
    rw [ha] at e
    cases e
    refine ⟨none, fun b u z => absurd (seeOnly_some z).2 (by simp), .scr (.inr fun H' => .inr ⟨_, vs.toArray, _, q, rfl, rfl, rfl, by rw [List.size_toArray]; omega, rv⟩) (VRs.map_int ns), fun z => absurd rfl z, fun u z => absurd z (by simp), ⟨_, _, _, ha, rfl⟩⟩
  | none =>
    refine ⟨some (.frz { cls := .type "list", data := .seq vs.toArray } (.lst (ns.map V.int))), fun b u z => ?_, .scr (.inl ⟨_, if_pos rfl, fun z => ?_⟩) (VRs.map_int ns), fun _ => q, fun u z => ?_, ⟨_, _, _, ha, rfl⟩⟩
    · obtain ⟨rfl, e⟩ := seeOnly_some z
      cases e
      refine ⟨ha, ?_, vs, _, rv, ha⟩
      rw [List.length_map]; exact hl
    · rcases z with z | z <;> exact nomatch z
    · cases z; exact ⟨_, _, rfl, ha⟩
theorem law_runs {P : Program} {w : World} {K : PySem.W.Frag} {mg mb : Str → Option Value} {k : Nat} {fa a : Addr} {fd : FuncData} {x : Str} {f : List D → Sto → R D} {st : Shared} {vs : List Value} {ns : List Int} {S' : Sto}
    (KX : K.In st.heap) (g1 : st.heap.Ns mainGlobals mg) (g2 : st.heap.Ns builtinsNs mb) (g3 : ∀ y : Str, y ≠ "__name__" → mb y = bootBuiltins y) (g4 : st.heap.NoLimit) (g5 : st.gens = #[])
    (ha : st.heap.get? a = some { cls := .type "list", data := .seq vs.toArray }) (hi : IntsAre vs ns) (hl : ns.length ≤ sizeLine) (hr : Room k callerA)
    (F : ∀ base : Heap, K.In base → base.Ns mainGlobals mg → FnG P w K mg base k fa fd [x] f) (hbd : ∀ (s : Shared) (u : Value), BindsTo s fd ⟨[u], []⟩ [(x, u)])
    (hf : f [.scr (ns.map D.int)] [] = .ok (.bl true) S') :
    codeAny (model P w) callerA (.call (.ref fa) ⟨[.ref a], []⟩) (fun r s' => r = .ok (.ret (.bool true)) ∧ OldK st.heap s'.heap ∧ s'.os = st.os ∧ AllBare s'.gens) st := by
  obtain ⟨o, sc⟩ := script_stands (P := P) (w := w) KX ha hi hl
  have untr : ∀ b ob es ep, st.heap.get? b = some ob → ob.data = .dict es ep → seeOnly a o b = none := fun b ob es ep e d => by
    cases q : seeOnly a o b with
    | none => rfl
    | some u =>
      obtain ⟨rfl, e2⟩ := seeOnly_some q
      obtain ⟨ob2, its, n, e3, e4⟩ := sc.seq
      rw [e] at e3; cases e3
      rw [d] at e4; cases e4
  have ns' : ∀ (b : Addr) (m : Str → Option Value), st.heap.Ns b m → (hidT st.heap (seeOnly a o)).Ns b m := fun b m ⟨ob, es, ep, e, d, r⟩ => ⟨ob, es, ep, hidT_get e (untr b ob es ep e d), d, r⟩
  have KB : K.In (hidT st.heap (seeOnly a o)) := fun b ob e => hidT_get (KX b ob e) (by
    cases q : seeOnly a o b with
    | none => rfl
    | some u =>
      obtain ⟨rfl, e2⟩ := seeOnly_some q
      rw [sc.free (by rw [e2]; exact fun z => nomatch z)] at e; cases e)
  have M : Mod K mg (hidT st.heap (seeOnly a o)) := by
    refine ⟨KB, ns' _ _ g1, ⟨mb, ns' _ _ g2, g3⟩, ?_⟩
    obtain ⟨mc, h1, h2⟩ := g4
    exact ⟨mc, ns' _ _ h1, h2⟩
  have env : Env0 P w K mg (hidT st.heap (seeOnly a o)) callerA [] st (seeOnly a o) := {
    frames := rfl
    mod := M
    bs := fun b ob e => of_hidT e
    bsz := Nat.le_of_eq (hidT_size _ _)
    funs := trivial
    frf := fun b z => absurd (show b ∈ ([] : List Addr) from z) (by simp)
    hok := sc.ok
    bare := .of_eq g5 }
  have go := (F _ KB (ns' _ _ g1)).run callerA [] st (seeOnly a o) ⟨[.ref a], []⟩ [.ref a] [.ref a] (fun v _ => v = .bl true) (fun _ _ _ => False) hr rfl env (hbd st (.ref a)) (.cons rfl .nil)
    ⟨⟨[], []⟩, [], _, sr_empty, .cons sc.vr .nil, by
      rw [hf]
      intro ρ' H' v _ _ r
      cases r; rfl⟩
  refine codeAny_mono go fun res s' h => ?_
  match res, h with
  | .error e, h =>
    obtain ⟨_, _, _, _, _, _, _, _, _, _, _, _, z⟩ := h
    exact z.elim
  | .ok .next, h => exact False.elim h
  | .ok .brk, h => exact False.elim h
  | .ok .cont, h => exact False.elim h
  | .ok (.ret u), ⟨v, H', os, bare, un, hok', rv, q⟩ =>
    have q' : v = .bl true := q
    subst q'
    have hu : u = .bool true := rv
    subst hu
    refine ⟨rfl, OldK.of_keep fun b ob e => ?_, os, bare⟩
    cases q : seeOnly a o b with
    | none => exact un.keep b ob e q (fun z => absurd (show b ∈ ([] : List Addr) from z) (by simp)) (by simp)
    | some u =>
      obtain ⟨rfl, e2⟩ := seeOnly_some q
      obtain ⟨ob2, xs, rfl, e3⟩ := sc.frz u e2
      obtain ⟨k1, _⟩ := hok' b _ (un.frzs b ob2 _ q)
      rw [e] at e3; cases e3
      exact k1
/-- the goal that k_head leaves, from the law's def -/
theorem walk_G {l : PySem.W.OpenLaw} {n k : Nat} {q : Program} {loose : List Str} {XP : (Str → Option Value) → Heap → Prop} {YP : World → Heap → Prop} {d : DefRec} {K : Params → PySem.W.Frag} {x : Str}
    (hn : l.most = some n) (hn2 : n ≤ sizeLine) (hdf : d.params.defaults = []) (hr : Room k callerA) (hY : ∀ (w : World) (h : Heap), YP w h → (K w.params).In h)
    (F : ∀ (w : World) (mg : Str → Option Value) (fa : Addr) (h : Heap), (K w.params).In h → h.Ns mainGlobals mg → mg d.name = some (.ref fa) →
      ∃ (fd : FuncData) (f : List D → Sto → R D), (∀ (s : Shared) (u : Value), BindsTo s fd ⟨[u], []⟩ [(x, u)]) ∧ (∀ base : Heap, (K w.params).In base → base.Ns mainGlobals mg → FnG l.prog w (K w.params) mg base k fa fd [x] f) ∧
        ∀ ns : List Int, ns.length ≤ n → ∃ S', f [.scr (ns.map D.int)] [] = .ok (.bl true) S') :
    PySem.W.WalkO q loose XP YP l.row.toRowW d [] (fun f vs => PySem.call f vs) := by
  refine Att.attach_call hn hdf ?_
  intro w s0 s1 mg mb fa o pm cd doc a vs ns G Y ho hd hcd hmg hobj hints hlen hg
  have KX := hY w _ Y
  obtain ⟨fd, f, hb, hF, hL⟩ := F w mg fa _ KX G.T.g hmg
  obtain ⟨S', hS⟩ := hL ns hlen
  exact law_runs KX G.T.g G.T.b G.T.builtins G.T.nolimit hg hobj hints (Nat.le_trans hlen hn2) hr hF hb hS
end
end Z

/-! Z9: the rules in their last form, for the printed derivations. -/
namespace Z
open PySem L2 PyProof.Rows
theorem un100 {k : Nat} {A : Around} (r : Room k A) : A.units + 100 < cLine := by have := r.un; omega
section
variable {X : Cx} {W : WX} {e a b c o i v : Expr} {es : List Expr} {m ma mb mc mo mi mv : ME} {ms : MA} {pos pos' apos cpos : Pos}
theorem op_addZ : OpR X (binaryOp .Add) (rAddR X.K) := op_add.or (op_add_str.or (op_catA.or op_cat))
theorem op_mulZ : OpR X (binaryOp .Mult) (rMulR X.K) := op_mul.or op_repT
theorem z_add (ha : PE X a (Em X.K W ma)) (hb : PE X b (Em X.K W mb)) : PE X (.BinOp a .Add b pos) (Em X.K W (mBin dAdd ma mb)) := z_bin op_addZ dAdd_ok ha hb
theorem z_sub (ha : PE X a (Em X.K W ma)) (hb : PE X b (Em X.K W mb)) : PE X (.BinOp a .Sub b pos) (Em X.K W (mBin dSub ma mb)) := z_bin op_sub dSub_ok ha hb
theorem z_mul (ha : PE X a (Em X.K W ma)) (hb : PE X b (Em X.K W mb)) : PE X (.BinOp a .Mult b pos) (Em X.K W (mBin dMul ma mb)) := z_bin op_mulZ dMul_ok ha hb
theorem z_mod (ha : PE X a (Em X.K W ma)) (hb : PE X b (Em X.K W mb)) : PE X (.BinOp a .Mod b pos) (Em X.K W (mBin dMod ma mb)) := z_bin op_mod dMod_ok ha hb
theorem z_fdiv (ha : PE X a (Em X.K W ma)) (hb : PE X b (Em X.K W mb)) : PE X (.BinOp a .FloorDiv b pos) (Em X.K W (mBin dFdiv ma mb)) := z_bin op_fdiv dFdiv_ok ha hb
theorem z_pow (ha : PE X a (Em X.K W ma)) (hb : PE X b (Em X.K W mb)) : PE X (.BinOp a .Pow b pos) (Em X.K W (mBin dPow ma mb)) := z_bin op_pow dPow_ok ha hb
/-- a comparison's rule with its reading -/
structure CmpZ (X : Cx) (op : CmpOp) (f : D → D → Sto → R D) : Prop where
  ex : ∃ r, OpR X (compareOp op) r ∧ OpS X.K f r
theorem c_eq (hu : X.A.units + 100 < cLine) : CmpZ X .Eq dEq := ⟨_, op_eqP hu, dDat_ok plainB_C⟩
theorem c_ne (hu : X.A.units + 100 < cLine) : CmpZ X .NotEq dNe := ⟨_, op_neP hu, dDat_ok plainB_C⟩
theorem c_lt (hu : X.A.units + 100 < cLine) : CmpZ X .Lt dLt := ⟨_, op_ltP hu, dDat_ok alikeB_C⟩
theorem c_gt (hu : X.A.units + 100 < cLine) : CmpZ X .Gt dGt := ⟨_, op_gtP hu, dDat_ok alikeB_C⟩
theorem c_le (hu : X.A.units + 100 < cLine) : CmpZ X .LtE dLe := ⟨_, op_leP hu, dDat_ok alikeB_C⟩
theorem c_ge (hu : X.A.units + 100 < cLine) : CmpZ X .GtE dGe := ⟨_, op_geP hu, dDat_ok alikeB_C⟩
theorem c_in (hu : X.A.units + 100 < cLine) : CmpZ X .In dInL := ⟨_, op_inP hu, dDat_ok inB_C⟩
theorem c_nin (hu : X.A.units + 100 < cLine) : CmpZ X .NotIn dNotInL := ⟨_, op_notInP hu, dDat_ok inB_C⟩
theorem c_is : CmpZ X .Is (dIsN false) := ⟨_, op_isN, dIs_ok⟩
theorem c_isn : CmpZ X .IsNot (dIsN true) := ⟨_, op_notN, dIsNot_ok⟩
theorem e_cmp {op : CmpOp} {f : D → D → Sto → R D} (hc : CmpZ X op f) (ha : PE X a (Em X.K W ma)) (hb : PE X b (Em X.K W mb)) (hm : behindInMarks op b = false := by first | exact nomark _ | rfl) : PE X (.Compare a [op] [b] pos) (Em X.K W (mBin f ma mb)) := by
  obtain ⟨r, h1, h2⟩ := hc
  exact z_cmp h1 h2 ha hb hm
theorem tt_cmp {op : CmpOp} {f : D → D → Sto → R D} (hc : CmpZ X op f) (ha : PE X a (Em X.K W ma)) (hb : PE X b (Em X.K W mb)) (hm : behindInMarks op b = false := by first | exact nomark _ | rfl) : PT X (.Compare a [op] [b] pos) (Tm X.K W (mB (mBin f ma mb))) := by
  obtain ⟨r, h1, h2⟩ := hc
  exact t_cmp h1 h2 ha hb hm
theorem e_chain {op op' : CmpOp} {f g : D → D → Sto → R D} (h1 : CmpZ X op f) (h2 : CmpZ X op' g) (ha : PE X a (Em X.K W ma)) (hb : PE X b (Em X.K W mb)) (hc : PE X c (Em X.K W mc)) (hm : lastMarks [op, op'] [b, c] = false := by with_unfolding_all rfl) :
    PE X (.Compare a [op, op'] [b, c] pos) (Em X.K W (mChain f g ma mb mc)) := by
  obtain ⟨r, k1, k2⟩ := h1
  obtain ⟨r', k3, k4⟩ := h2
  exact z_chain k1 k2 k3 k4 ha hb hc (pe_chain k1 k3 ha hb hc hm)
theorem tt_chain {op op' : CmpOp} {f g : D → D → Sto → R D} (h1 : CmpZ X op f) (h2 : CmpZ X op' g) (ha : PE X a (Em X.K W ma)) (hb : PE X b (Em X.K W mb)) (hc : PE X c (Em X.K W mc)) (hm : lastMarks [op, op'] [b, c] = false := by with_unfolding_all rfl) :
    PT X (.Compare a [op, op'] [b, c] pos) (Tm X.K W (mB (mChain f g ma mb mc))) := by
  obtain ⟨r, k1, k2⟩ := h1
  obtain ⟨r', k3, k4⟩ := h2
  refine PT_imp (pt_chain k1 k3 ha hb hc hm) fun σ H Q ⟨ρ, τ, S, s, e, p⟩ => ?_
  have p' : Post X.K (fun c d H' => W c d σ H') ρ H ((ma τ S).bind fun x S1 => (mb τ S1).bind fun y S2 => (f x y S2).bind fun k S3 => (asB k S3).bind fun k S3 => if k = true then (mc τ S3).bind fun z S4 => (g y z S4).bind asB else .ok false S3) relB Q := by
    have : (mB (mChain f g ma mb mc) τ S) = ((ma τ S).bind fun x S1 => (mb τ S1).bind fun y S2 => (f x y S2).bind fun k S3 => (asB k S3).bind fun k S3 => if k = true then (mc τ S3).bind fun z S4 => (g y z S4).bind asB else .ok false S3) := by
      unfold mB mChain
      cases ma τ S with
      | ok x S1 =>
        simp only [R.bind_ok]
        cases mb τ S1 with
        | ok y S2 =>
          simp only [R.bind_ok]
          cases f x y S2 with
          | ok k S3 =>
            simp only [R.bind_ok]
            cases asB k S3 with
            | ok k2 S4 =>
              simp only [R.bind_ok]
              cases k2 with
              | true =>
                simp only [if_true]
                cases mc τ S4 <;> rfl
              | false => rfl
            | _ => rfl
          | _ => rfl
        | _ => rfl
      | _ => rfl
    rw [← this]; exact p
  refine Em_bind s e p' fun ρ1 H1 S1 v d s1 e1 x1 v1 p1 => ?_
  refine Em_bind s1 e1 p1 fun ρ2 H2 S2 w d2 s2 e2 x2 v2 p2 => ?_
  refine k2 _ ρ2 S2 H2 v w d d2 _ s2 (v1.mono x2) v2 (Post.bind p2 fun ρ3 H3 S3 z dz x3 s3 v3 p3 => ?_)
  cases v3 with
  | bl k =>
    refine ⟨k, rfl, ?_⟩
    cases k with
    | true =>
      simp only [asB, R.bind_ok, if_true] at p3 ⊢
      refine Em_bind s3 (e2.mono x3) p3 fun ρ4 H4 S4 u d4 s4 e4 x4 v4 p4 => k4 _ ρ4 S4 H4 w u d2 d4 _ s4 ((v2.mono x3).mono x4) v4 (Post.bind p4 fun ρ5 H5 S5 z5 dz5 x5 s5 v5 p5 => asB_post s5 v5 p5)
    | false =>
      simp only [asB, R.bind_ok] at p3 ⊢
      rw [if_neg (by decide)] at p3 ⊢
      exact ⟨false, rfl, p3.here s3 rfl⟩
  | _ => exact (show False from p3).elim
/-! ### names of the module -/
theorem z_gint {x : Str} {n : Int} (hm : ∃ t, X.mg x = some (.int n t)) (hg : Gl X x := by rfl) (hd : (x == ("__debug__" : Str)) = false := by decide) : PE X (.Name x pos) (Em X.K W (mC (.int n))) :=
  let ⟨t, h⟩ := hm
  z_glob (v := .int n) h ⟨t, rfl⟩ (fun _ _ => .int n) hg hd
theorem z_gstr {x : Str} {z : Str} (hm : ∃ t, X.mg x = some (.str z t)) (hg : Gl X x := by rfl) (hd : (x == ("__debug__" : Str)) = false := by decide) : PE X (.Name x pos) (Em X.K W (mC (.str z))) :=
  let ⟨t, h⟩ := hm
  z_glob (v := .str z) h ⟨t, rfl⟩ (fun _ _ => .str z) hg hd
/-- a tuple, a list of the module, at a -/
theorem z_gtup {x : Str} {q : Addr} {ds : List D} (hm : X.mg x = some (.ref q)) (hv : ∀ ρ H, VR X.K ρ H (.ref q) (.tup ds)) (hg : Gl X x := by rfl) (hd : (x == ("__debug__" : Str)) = false := by decide) : PE X (.Name x pos) (Em X.K W (mC (.tup ds))) :=
  z_glob (v := .ref q) hm rfl hv hg hd
theorem z_ty {x : Str} {T : String} (hm : X.mg x = none) (hv : bootBuiltins x = some (.type T)) (hg : Gl X x := by rfl) (hn : x ≠ "__name__" := by decide) (hd : (x == ("__debug__" : Str)) = false := by decide) : PE X (.Name x pos) (Em X.K W (mC (.ob (.ty T)))) :=
  z_c (pe_bltn (v := .ty T) hg hm hv rfl hn hd) fun _ _ => .ob _
/-! ### statements -/
theorem s_set {i : Nat} {x : Str} (hN : X.N.Nodup) (hi : X.N[i]? = some x) (hx : Loc X.env.scope x) (he : PE X e (Em X.K W m)) (hs : swapsWith e (some (.Name x pos')) pos.line X.env = pure false := by rfl) (hf : X.fn x = true ∨ X.env.scope.names.lookup x = some .local := by first | exact .inl rfl | exact .inr rfl | assumption) :
    PS X (.Assign [.Name x pos'] e pos) (Sm X.K W (sAsg i m)) := Z.s_set0 he (ps_set hN hi hx he hs hf)
theorem s_parA {i j : Nat} {x y : Str} {px py pt : Pos} {kt k2 pt2} (hc : X.calm = true) (hN : X.N.Nodup) (hi : X.N[i]? = some x) (hj : X.N[j]? = some y) (hij : i ≠ j)
    (hx : X.env.scope.names.lookup x = some .local) (hy : X.env.scope.names.lookup y = some .local) (ha : PA X [a, b] (Am X.K W ms))
    (hw : swappedStores [.Tuple [.Name x px, .Name y py] kt pt] (.Tuple [a, b] k2 pt2) X.env = pure (some [x, y]))
    (hs : swapsWithSole [.Tuple [.Name x px, .Name y py] kt pt] (.Tuple [a, b] k2 pt2) pos.line X.env = pure false := by rfl) :
    PS X (.Assign [.Tuple [.Name x px, .Name y py] kt pt] (.Tuple [a, b] k2 pt2) pos) (Sm X.K W (sPar [i, j] ms)) := s_par2 hij ha (ps_par hc hN hi hj hij hx hy ha hw hs)
theorem s_parB {i j l : Nat} {x y z : Str} {px py pz pt : Pos} {kt k2 pt2} (hc : X.calm = true) (hN : X.N.Nodup) (hi : X.N[i]? = some x) (hj : X.N[j]? = some y) (hl : X.N[l]? = some z) (hij : i ≠ j) (hil : i ≠ l) (hjl : j ≠ l)
    (hx : X.env.scope.names.lookup x = some .local) (hy : X.env.scope.names.lookup y = some .local) (hz : X.env.scope.names.lookup z = some .local) (ha : PA X [a, b, c] (Am X.K W ms))
    (hw : swappedStores [.Tuple [.Name x px, .Name y py, .Name z pz] kt pt] (.Tuple [a, b, c] k2 pt2) X.env = pure (some [x, y, z]))
    (hs : swapsWithSole [.Tuple [.Name x px, .Name y py, .Name z pz] kt pt] (.Tuple [a, b, c] k2 pt2) pos.line X.env = pure false := by rfl) :
    PS X (.Assign [.Tuple [.Name x px, .Name y py, .Name z pz] kt pt] (.Tuple [a, b, c] k2 pt2) pos) (Sm X.K W (sPar [i, j, l] ms)) :=
  PS_imp (ps_par3 hc hN hi hj hl hij hil hjl hx hy hz ha hw hs) fun D σ H ⟨ρ, τ, S, s, r, p⟩ =>
    Am_S s r p fun ρ1 H1 S1 vs ds s1 r1 e1 v1 p1 => by
      cases v1 with
      | nil => exact p1.elim
      | cons a1 v2 => cases v2 with
        | nil => exact p1.elim
        | cons a2 v3 => cases v3 with
          | nil => exact p1.elim
          | cons a3 v4 => cases v4 with
            | nil => exact ⟨_, _, _, rfl, PostS.here p1 s1 (((r1.set i a1).set j a2).set l a3)⟩
            | cons a4 v5 => exact p1.elim
theorem z_app (ho : PE X o (Em X.K W m)) (ha : PA X [e] (Am X.K W ms)) (hbase : attributeBase o "append" X.env (eval o X.env) = eval o X.env := by rfl)
    (hfew : ((backTo cpos (starEach [e] X.env)).all (fun x => !x.1) && (backToKw cpos (keywordEach [] X.env)).all (fun x => x.1.isSome) && decide ([e].length + ([] : List Keyword).length + (if ([] : List Keyword).isEmpty then 0 else 1) < 30)) = true := by rfl)
    (hline : (apos.endLine == cpos.line) = true := by rfl) (hs : starEach [e] X.env = (false, eval e X.env) :: starEach [] X.env := by rfl) (hplain : (backTo cpos (starEach [] X.env)).any (·.1) = false := by rfl) :
    PE X (.Call (.Attribute o "append" apos) [e] [] cpos) (Em X.K W (mMeth "list" dAppend m ms)) :=
  z_append ho ha (pe_bm PySem.F.plainAttrs_list PySem.F.slot_list_append PySem.F.type_list_append mt_append ho ha hbase hfew hline hs hplain)
theorem s_setix (ho : PE X o (Em X.K W mo)) (hi : PE X i (Em X.K W mi)) (hv : PE X v (Em X.K W mv)) (ha : ∀ z, assign (.Subscript o i pos') X.env z = (do
      let ov ← holding [z] (eval o X.env)
      let iv ← holding [z, ov] (eval i X.env)
      standAt pos'
      holding [z, ov, iv] (setItem ov iv z)
      release [z, ov, iv] []) := by intro _; rfl) (hs : swapsWithSole [.Subscript o i pos'] v pos.line X.env = pure false := by rfl) (hw : swappedStores [.Subscript o i pos'] v X.env = pure none := by rfl)
    (h1 : (assignEach [.Subscript o i pos'] X.env).map (·.2) = [assign (.Subscript o i pos') X.env] := by rfl) : PS X (.Assign [.Subscript o i pos'] v pos) (Sm X.K W (sSub mo mi mv)) :=
  s_sub ho hi hv (ps_asg hv (pg_sub ho hi set_list ha) hs hw h1)
end
/-! ### t[::k] of a tuple -/
def stepD {A : Type} (ds : List A) (k : Int) : List A :=
  (List.range (Builtin.Slice.slicePlaces (Builtin.Slice.sliceAdjust none none k ds.length).1 (Builtin.Slice.sliceAdjust none none k ds.length).2 k)).filterMap fun (j : Nat) => ds[((Builtin.Slice.sliceAdjust none none k ds.length).1 + (j : Int) * k).toNat]?
def mStep (m : ME) (k : Int) : ME := fun τ S => (m τ S).bind fun d S1 => match d with
  | .tup ds => guardR ((stepD ds k).length ≤ sizeLine) (.ok (.tup (stepD ds k)) S1)
  | _ => .bad
theorem VRs.pick {K : PySem.W.Frag} {ρ : Pl} {H : Hp} {vs : List V} {ds : List D} (h : VRs K ρ H vs ds) (f : Nat → Nat) : ∀ l : List Nat, VRs K ρ H (l.filterMap fun j => vs[f j]?) (l.filterMap fun j => ds[f j]?)
  | [] => .nil
  | j :: l => by
    rw [List.filterMap_cons, List.filterMap_cons]
    cases q : ds[f j]? with
    | none =>
      have : vs[f j]? = none := by
        rw [List.getElem?_eq_none_iff] at q ⊢
        rw [h.length]; exact q
      rw [this]
      exact VRs.pick h f l
    | some d =>
      obtain ⟨v, h1, h2⟩ := h.get q
      rw [h1]
      exact .cons h2 (VRs.pick h f l)
theorem VRs.step {K : PySem.W.Frag} {ρ : Pl} {H : Hp} {vs : List V} {ds : List D} (h : VRs K ρ H vs ds) (k : Int) : VRs K ρ H (stepD vs k) (stepD ds k) := by
  unfold stepD
  rw [h.length]
  exact h.pick _ _
theorem pick_same {A : Type} (xs : List A) (f g : Nat → Nat) (h : ∀ j, f j = g j) (l : List Nat) : (l.filterMap fun j => xs[f j]?) = l.filterMap fun j => xs[g j]? := by
  have : f = g := funext h
  rw [this]
theorem Vals.pick {vs : List V} {us : List Value} (r : Vals vs us) (f : Nat → Nat) : ∀ l : List Nat, Vals (l.filterMap fun j => vs[f j]?) (l.filterMap fun j => us[f j]?)
  | [] => .nil
  | j :: l => by
    rw [List.filterMap_cons, List.filterMap_cons]
    cases q : vs[f j]? with
    | none => rw [r.none_of q]; exact Vals.pick r f l
    | some d =>
      obtain ⟨u, h1, h2⟩ := r.get q
      rw [h1]
      exact .cons h2 (Vals.pick r f l)
theorem Vals.step {vs : List V} {us : List Value} (r : Vals vs us) (k : Int) : Vals (stepD vs k) (stepD us k) := by
  unfold stepD
  rw [r.length]
  exact Vals.pick r _ _
section
variable {X : Cx} {W : WX} {e st : Expr} {m : ME} {pos p3 : Pos}
theorem step_applied {prog : Program} {w : World} {A : Around} {E : Value → Shared → Prop} {s : Shared} {sl : Addr} {k : Int} {tk : Tok} {n : Nat} {Q : Int × Int × Nat → Shared → Prop} (hs : s.heap.IsSliceOf sl .none .none (.int k tk)) (h0 : k ≠ 0)
    (h : Q ((Builtin.Slice.sliceAdjust none none k (n : Int)).1, k, Builtin.Slice.slicePlaces (Builtin.Slice.sliceAdjust none none k (n : Int)).1 (Builtin.Slice.sliceAdjust none none k (n : Int)).2 k) s) :
    wpAny (model prog w) A (Builtin.Slice.sliceApplied (.ref sl) (pure (n : Int))) Q E s := by
  obtain ⟨os, hos, hcs, hds⟩ := id hs
  unfold Builtin.Slice.sliceApplied Builtin.Slice.sliceFields
  refine wpAny_bind ?_
  refine wpAny_bind (wpAny_field hos hds (x := .none) rfl (wpAny_bind (wpAny_field hos hds (x := .none) rfl (wpAny_bind (wpAny_field hos hds (x := .int k tk) rfl (wpAny_pure ?_))))))
  refine wpAny_bind (slicePart_int ?_)
  show wpAny _ _ (if (k == 0) = true then _ else _) _ _ s
  rw [if_neg (by simpa using h0)]
  exact wpAny_bind (slicePart_none (wpAny_bind (slicePart_none (wpAny_bind (wpAny_pure (wpAny_pure h))))))
theorem tuple_step {prog : Program} {w : World} {A : Around} {E : Value → Shared → Prop} {s : Shared} {t sl : Addr} {its : List Value} {k : Int} {tk : Tok} {Q : Value → Shared → Prop} (ht : IsTup s.heap t its.toArray) (hs : s.heap.IsSliceOf sl .none .none (.int k tk)) (h0 : k ≠ 0) (h1 : k ≠ 1)
    (hz : (stepD its k).length ≤ sizeLine) (h : Q (.ref s.heap.objs.size) { s with heap := s.heap.push { cls := .type "tuple", data := .seq (stepD its k).toArray } }) : wpAny (model prog w) A (getItem (.ref t) (.ref sl)) Q E s := by
  obtain ⟨os, hos, hcs, hds⟩ := id hs
  have hTs : s.TypeIs (.ref sl) "slice" := ⟨os, hos, hcs⟩
  unfold getItem
  try with_reducible refine wpAny_holding ?_
  first | refine wpAny_bind (wpAny_pure ?_) | skip
  apply wpAny_bind
  apply wpAny_sequenceKey ht.typeIs (by decide)
  apply wpAny_bind
  apply wpAny_callSpecial?_slot (name := Str.ofString "__getitem__") ht.typeIs PyProof.Rows.slot_tuple_getitem
  apply wpAny_call_entry PyProof.Rows.slot_tuple_getitem ht.typeIs entry_tuple_getitem _ (args_tuple_getitem _ _)
  show wpAny _ _ (Builtin.Tuple.tupleItemsOf (.ref t) >>= _) _ _ s
  apply wpAny_bind
  apply tupleItemsOf_ ht
  apply wpAny_bind
  apply wpAny_typeOf hTs
  rw [if_pos (by decide)]
  apply wpAny_bind
  apply step_applied hs h0
  have hno : ¬ (((Builtin.Slice.sliceAdjust none none k (its.toArray.size : Int)).1 == 0 && k == 1 && Builtin.Slice.slicePlaces (Builtin.Slice.sliceAdjust none none k (its.toArray.size : Int)).1 (Builtin.Slice.sliceAdjust none none k (its.toArray.size : Int)).2 k == its.toArray.size) = true) := by
    intro q
    rw [Bool.and_eq_true, Bool.and_eq_true] at q
    exact h1 (eq_of_beq q.1.2)
  show wpAny _ _ (if ((Builtin.Slice.sliceAdjust none none k (its.toArray.size : Int)).1 == 0 && k == 1 && Builtin.Slice.slicePlaces (Builtin.Slice.sliceAdjust none none k (its.toArray.size : Int)).1 (Builtin.Slice.sliceAdjust none none k (its.toArray.size : Int)).2 k == its.toArray.size) = true then _ else _) _ _ s
  rw [if_neg hno]
  have e1 : ((List.range (Builtin.Slice.slicePlaces (Builtin.Slice.sliceAdjust none none k (its.toArray.size : Int)).1 (Builtin.Slice.sliceAdjust none none k (its.toArray.size : Int)).2 k)).filterMap fun (j : Nat) => its.toArray[((Builtin.Slice.sliceAdjust none none k (its.toArray.size : Int)).1 + (j : Int) * k).toNat]?) = stepD its k := by
    unfold stepD
    simp only [List.size_toArray, List.getElem?_toArray]
  have hok : sizeOk (.seq (stepD its k).toArray) := by
    show (stepD its k).toArray.size ≤ sizeLine
    rw [List.size_toArray]; exact hz
  rw [e1]
  first
    | exact wpAny_bind (m := Builtin.Tuple.tupleExact _) (wpAny_newObj_type (wpAny_pure ⟨_, rfl, wpAny_pure h⟩) hok)
    | exact wpAny_bind (m := Builtin.Tuple.tupleExact _) (wpAny_newObj_type (wpAny_bind (wpAny_pure (wpAny_pure ⟨_, rfl, wpAny_pure h⟩))) hok)
    | exact wpAny_bind (wpAny_bind (m := Builtin.Tuple.tupleExact _) (wpAny_newObj_type (wpAny_pure (wpAny_pure ⟨_, rfl, wpAny_pure h⟩)) hok))
    | exact wpAny_bind (wpAny_bind (m := Builtin.Tuple.tupleExact _) (wpAny_newObj_type (wpAny_pure ⟨_, rfl, wpAny_pure h⟩) hok))
/-- e[::k] -/
theorem z_step {k : Int} (he : PE X e (Em X.K W m)) (hk : PO X (some st) (tPart (fun _ H Q => Q (.int k) H))) (h0 : k ≠ 0) (h1 : k ≠ 1) {ops : Value → Value → List Value} (hsub : ∀ v u, subscripted (.Slice none none (some st) p3) false v u = operate (ops v u) (getItem v u)) :
    PE X (.Subscript e (.Slice none none (some st) p3) pos) (Em X.K W (mStep m k)) := by
  constructor
  intro pins s σ H Q I h
  obtain ⟨ρ, τ, S, sr, er, po⟩ := h
  have he' := he.run pins s σ H (fun x H1 => ∃ a xs, x = .ref a ∧ SqT X.K H1 a xs ∧ (stepD xs k).length ≤ sizeLine ∧ ∀ p, H1 p = none → Q (.ref p) (upd H1 p (.tup (stepD xs k)))) I (Em_bind sr er po fun ρ1 H1 S1 v d s1 e1 x1 v1 p1 => by
    split at p1
    · obtain ⟨hz, p1⟩ := guardR_post p1
      obtain ⟨a, xs, rfl, h1, h2⟩ := tup_of v1
      exact ⟨a, xs, rfl, h1, by rw [(h2.step k).length]; exact hz, p1.newTup s1 (h2.step k)⟩
    · exact p1.elim)
  refine Subscript_ (thn he' fun v s1 ⟨x, H1, I1, r1, a, xs, ex, hx, hz, q⟩ => ?_)
  subst ex
  cases r1
  refine wpAny_Slice (thn (po_none.run pins s1 σ H1 (fun o H2 => o = none ∧ H2 = H1) I1 ⟨rfl, rfl⟩) fun vl s2 ⟨l, H2, I2, pl, el, e2⟩ => ?_)
  subst el e2
  refine thn (po_none.run pins s2 σ H2 (fun o H3 => o = none ∧ H3 = H2) I2 ⟨rfl, rfl⟩) fun vu s3 ⟨u, H3, I3, pu, eu, e3⟩ => ?_
  subst eu e3
  refine thn (hk.run pins s3 σ H3 (fun o H4 => o = some k ∧ H4 = H3) I3 ⟨k, rfl, rfl, rfl⟩) fun vs s4 ⟨o, H4, I4, ps, eo, e4⟩ => ?_
  subst eo e4
  cases pl; cases pu
  obtain ⟨tk, rfl⟩ : ∃ tk, vs = .int k tk := by cases ps; exact ⟨_, rfl⟩
  have I5 : Inv X pins σ H4 { s4 with heap := s4.heap.push { cls := .type "slice", data := .fields #[.none, .none, .int k tk] } } := I4.kept (t' := s4.toks) fun b ob q => Heap.get?_push_of_some _ q
  obtain ⟨its, r, ht, hz2⟩ := I5.tuple hx
  show wpAny (model X.prog X.w) X.A (subscriptTail e (.Slice none none (some st) p3) (.ref a) (.ref s4.heap.objs.size)) (EP X pins σ Q) X.xe { s4 with heap := s4.heap.push { cls := .type "slice", data := .fields #[.none, .none, .int k tk] } }
  refine tail_any (ops := ops (.ref a) (.ref s4.heap.objs.size)) ht.typeIs (PyProof.Rows.slot_tuple_getitem.lookup) ?_ (hsub _ _)
  refine tuple_step ht (Heap.IsSliceOf.new _ .none .none (.int k tk)) h0 h1 (by rw [← (Vals.step r k).length]; exact hz) ?_
  exact ⟨.ref _, _, I5.laid (t' := s4.toks) (o := .tup (stepD xs k)) (fun b ob q => Heap.get?_push_of_some _ q) (Nat.le_refl _) ⟨hz, _, Vals.step r k, _, Heap.get?_push_size _ rfl, rfl, 0, rfl⟩, rfl, q _ (I5.hok.fresh (Nat.le_refl _))⟩
theorem z_rev {kk : Nat} {p1 p2 : Pos} (he : PE X e (Em X.K W m)) : PE X (.Subscript e (.Slice none none (some (.UnaryOp .USub (.Constant (.int 1) kk p1) p2)) p3) pos) (Em X.K W (mStep m (-1))) :=
  z_step he (po_some (pe_un un_neg pe_int) |> fun h => PO_imp h fun σ H Q q => by
    obtain ⟨i, e, q⟩ := q
    cases e
    exact ⟨1, rfl, -1, rfl, q⟩) (by decide) (by decide) (ops := fun v u => [v, u]) (fun _ _ => by with_unfolding_all rfl)
theorem z_by2 {kk : Nat} {p1 : Pos} {n : Int} (h0 : n ≠ 0) (h1 : n ≠ 1) (he : PE X e (Em X.K W m)) : PE X (.Subscript e (.Slice none none (some (.Constant (.int n) kk p1)) p3) pos) (Em X.K W (mStep m n)) :=
  z_step he (po_some pe_int |> fun h => PO_imp h fun σ H Q q => by
    obtain ⟨i, e, q⟩ := q
    cases e
    exact ⟨n, rfl, q⟩) h0 h1 (ops := fun v u => [v, u]) (fun _ _ => by with_unfolding_all rfl)
end
end Z

/-! Z10: rules for the plain functions: what surely comes out (wpR, wpS), bounded trees, the pen and its draws. -/
namespace Z
open PySem L2

def wpR {A : Type} (o : R A) (Q : A → Sto → Prop) : Prop := match o with | .ok a S => Q a S | _ => False
@[simp] theorem wpR_ok {A : Type} (a : A) (S : Sto) (Q : A → Sto → Prop) : wpR (.ok a S) Q ↔ Q a S := Iff.rfl
@[simp] theorem wpR_bad {A : Type} (Q : A → Sto → Prop) : wpR (.bad) Q ↔ False := Iff.rfl
@[simp] theorem wpR_bind {A B : Type} (o : R A) (f : A → Sto → R B) (Q : B → Sto → Prop) : wpR (o.bind f) Q ↔ wpR o fun a S => wpR (f a S) Q := by cases o <;> exact Iff.rfl
@[simp] theorem wpR_guard {A : Type} (c : Prop) [Decidable c] (o : R A) (Q : A → Sto → Prop) : wpR (guardR c o) Q ↔ c ∧ wpR o Q := by
  unfold guardR
  split <;> simp_all [wpR]
@[simp] theorem wpR_ofO {A : Type} (o : Option A) (S : Sto) (Q : A → Sto → Prop) : wpR (ofO o S) Q ↔ ∃ a, o = some a ∧ Q a S := by cases o <;> simp [ofO, wpR]
theorem wpR_imp {A : Type} {o : R A} {Q Q' : A → Sto → Prop} (h : wpR o Q) (k : ∀ a S, Q a S → Q' a S) : wpR o Q' := by
  cases o <;> first | exact k _ _ h | exact h
theorem wpR_get {A : Type} {o : R A} {Q : A → Sto → Prop} (h : wpR o Q) : ∃ a S, o = .ok a S ∧ Q a S := by
  cases o <;> first | exact ⟨_, _, rfl, h⟩ | exact h.elim
def wpS (o : RS) (N : Tau → Sto → Prop) (T : D → Sto → Prop) : Prop := match o with | .nx τ S => N τ S | .rt d S => T d S | _ => False
@[simp] theorem wpS_nx (τ : Tau) (S : Sto) (N : Tau → Sto → Prop) (T : D → Sto → Prop) : wpS (.nx τ S) N T ↔ N τ S := Iff.rfl
@[simp] theorem wpS_rt (d : D) (S : Sto) (N : Tau → Sto → Prop) (T : D → Sto → Prop) : wpS (.rt d S) N T ↔ T d S := Iff.rfl
@[simp] theorem wpS_bad (N : Tau → Sto → Prop) (T : D → Sto → Prop) : wpS .bad N T ↔ False := Iff.rfl
@[simp] theorem wpS_lift {A : Type} (o : R A) (τ : Tau) (k : A → Sto → RS) (N : Tau → Sto → Prop) (T : D → Sto → Prop) : wpS (liftS o τ k) N T ↔ wpR o fun a S => wpS (k a S) N T := by cases o <;> exact Iff.rfl
@[simp] theorem wpS_seq (a b : MS) (τ : Tau) (S : Sto) (N : Tau → Sto → Prop) (T : D → Sto → Prop) : wpS (sSeq a b τ S) N T ↔ wpS (a τ S) (fun τ S => wpS (b τ S) N T) T := by
  unfold sSeq
  cases a τ S <;> exact Iff.rfl
section
variable {τ : Tau} {S : Sto} {N : Tau → Sto → Prop} {T : D → Sto → Prop}
@[simp] theorem x_nil : sNil τ S = .nx τ S := rfl
@[simp] theorem x_expr (m : ME) : sExpr m τ S = liftS (m τ S) τ fun _ S1 => .nx τ S1 := rfl
@[simp] theorem x_ret (m : ME) : sRet m τ S = liftS (m τ S) τ fun d S1 => .rt d S1 := rfl
@[simp] theorem x_if (t : MT) (a b : MS) : sIf t a b τ S = liftS (t τ S) τ fun k S1 => if k = true then a τ S1 else b τ S1 := rfl
@[simp] theorem wpS_ite (c : Prop) [Decidable c] (a b : RS) : wpS (if c then a else b) N T ↔ (c → wpS a N T) ∧ (¬c → wpS b N T) := by split <;> simp_all
@[simp] theorem wpR_ite {A : Type} (c : Prop) [Decidable c] (a b : R A) (Q : A → Sto → Prop) : wpR (if c then a else b) Q ↔ (c → wpR a Q) ∧ (¬c → wpR b Q) := by split <;> simp_all
@[simp] theorem x_asg (i : Nat) (m : ME) : sAsg i m τ S = liftS (m τ S) τ fun d S1 => .nx (τ.set i (some d)) S1 := rfl
@[simp] theorem x_bk : sBk τ S = .bk τ S := rfl
@[simp] theorem x_tup (is : List Nat) (m : ME) : sTup is m τ S = liftS (m τ S) τ fun d S1 => match bindT (.tp is) d τ with
  | some τ' => .nx τ' S1
  | none => .bad := rfl
@[simp] theorem x_par (is : List Nat) (ms : MA) : sPar is ms τ S = liftS (ms τ S) τ fun ds S1 => match setAll is ds τ with
  | some τ' => .nx τ' S1
  | none => .bad := rfl
@[simp] theorem x_sub (o i v : ME) : sSub o i v τ S = liftS (v τ S) τ fun y S1 => liftS (o τ S1) τ fun a S2 => liftS (i τ S2) τ fun k S3 => match a, k with
  | .loc l, .int n => match S3[l]? with
    | some (.lst ds) => match ixN ds.length n with
      | some j => .nx τ (S3.set l (.lst (ds.set j y)))
      | none => .bad
    | _ => .bad
  | _, _ => .bad := rfl
@[simp] theorem x_for (it : MI) (g : Tgt) (body : MS) : sFor it g body τ S = liftS (it τ S) τ fun i S1 => forL i.keep g body i.ds τ S1 := rfl
@[simp] theorem x_var (i : Nat) : mVar i τ S = match τ[i]? with | some (some d) => .ok d S | _ => .bad := rfl
@[simp] theorem x_c (d : D) : mC d τ S = .ok d S := rfl
@[simp] theorem x_bin (f : D → D → Sto → R D) (a b : ME) : mBin f a b τ S = (a τ S).bind fun x S1 => (b τ S1).bind fun y S2 => f x y S2 := rfl
@[simp] theorem x_B (m : ME) : mB m τ S = (m τ S).bind asB := rfl
@[simp] theorem x_asB (b : Bool) : asB (.bl b) S = .ok b S := rfl
@[simp] theorem x_T (m : ME) : mT m τ S = (m τ S).bind tru := rfl
@[simp] theorem x_tru (b : Bool) : tru (.bl b) S = .ok b S := rfl
@[simp] theorem x_chain (f g : D → D → Sto → R D) (a b c : ME) : mChain f g a b c τ S = (a τ S).bind fun x S1 => (b τ S1).bind fun y S2 => (f x y S2).bind fun k S3 => (asB k S3).bind fun k S3 =>
    if k = true then (c τ S3).bind fun z S4 => g y z S4 else .ok (.bl false) S3 := rfl
@[simp] theorem x_and (a b : MT) : mAnd a b τ S = (a τ S).bind fun k S1 => if k = true then b τ S1 else .ok false S1 := rfl
@[simp] theorem x_or (a b : MT) : mOr a b τ S = (a τ S).bind fun k S1 => if k = true then .ok true S1 else b τ S1 := rfl
@[simp] theorem x_not (a : MT) : mNot a τ S = (a τ S).bind fun k S1 => .ok (!k) S1 := rfl
@[simp] theorem x_andV (a b : ME) : mAndV a b τ S = (a τ S).bind fun x S1 => (tru x S1).bind fun k S2 => if k = true then b τ S2 else .ok x S2 := rfl
@[simp] theorem x_orV (a b : ME) : mOrV a b τ S = (a τ S).bind fun x S1 => (tru x S1).bind fun k S2 => if k = true then .ok x S2 else b τ S2 := rfl
@[simp] theorem x_notV (a : ME) : mNotV a τ S = (a τ S).bind fun x S1 => (tru x S1).bind fun k S2 => .ok (.bl (!k)) S2 := rfl
@[simp] theorem x_ifV (t : MT) (a b : ME) : mIf t a b τ S = (t τ S).bind fun k S1 => if k = true then a τ S1 else b τ S1 := rfl
@[simp] theorem x_un (f : D → Sto → R D) (a : ME) : mUn f a τ S = (a τ S).bind f := rfl
@[simp] theorem x_aNil : aNil τ S = .ok [] S := rfl
@[simp] theorem x_aCons (a : ME) (r : MA) : aCons a r τ S = (a τ S).bind fun x S1 => (r τ S1).bind fun xs S2 => .ok (x :: xs) S2 := rfl
@[simp] theorem x_mTup (r : MA) : mTup r τ S = (r τ S).bind fun xs S1 => guardR (xs.length ≤ sizeLine) (.ok (.tup xs) S1) := rfl
@[simp] theorem x_mLst (r : MA) : mLst r τ S = (r τ S).bind fun xs S1 => guardR (xs.length ≤ sizeLine) (.ok (.lst xs) S1) := rfl
@[simp] theorem x_mLstN (r : MA) : mLstN r τ S = (r τ S).bind fun xs S1 => guardR (xs.length ≤ sizeLine) (.ok (.loc S1.length) (S1 ++ [.lst xs])) := rfl
@[simp] theorem x_dct0 : mDct0 τ S = .ok (.dct [] []) S := rfl
@[simp] theorem x_call (f : List D → Sto → R D) (r : MA) : mCall f r τ S = (r τ S).bind f := rfl
@[simp] theorem x_meth (T : String) (f : D → List D → Sto → R D) (m : ME) (ms : MA) : mMeth T f m ms τ S = (m τ S).bind fun o S1 => if isTy T o S1 = true then (ms τ S1).bind fun xs S2 => f o xs S2 else .bad := rfl
@[simp] theorem x_seq (m : ME) : iSeq m τ S = (m τ S).bind fun d S1 => ofO (itemsOf d S1) S1 := rfl
@[simp] theorem x_iArgs (f : List D → Sto → Option Items) (ms : MA) : iArgs f ms τ S = (ms τ S).bind fun ds S1 => ofO (f ds S1) S1 := rfl
@[simp] theorem x_step (m : ME) (k : Int) : mStep m k τ S = (m τ S).bind fun d S1 => match d with
  | .tup ds => guardR ((stepD ds k).length ≤ sizeLine) (.ok (.tup (stepD ds k)) S1)
  | _ => .bad := rfl
@[simp] theorem x_sl (m : ME) (lo hi : Option ME) : mSl m lo hi τ S = (m τ S).bind fun d S1 => (mPart lo τ S1).bind fun l S2 => (mPart hi τ S2).bind fun h S3 => dSl d l h S3 := rfl
@[simp] theorem x_part0 : mPart none τ S = .ok none S := rfl
@[simp] theorem x_part1 (m : ME) : mPart (some m) τ S = (m τ S).bind fun d S1 => match d with
    | .int i => .ok (some i) S1
    | _ => .bad := rfl
@[simp] theorem x_slT (ds : List D) (lo hi : Option Int) : dSl (.tup ds) lo hi S = .ok (.tup (cutD ds lo hi)) S := rfl
@[simp] theorem x_slS (ds : List D) (lo hi : Option Int) : dSl (.scr ds) lo hi S = .ok (.lst (cutD ds lo hi)) S := rfl
@[simp] theorem x_slL (ds : List D) (lo hi : Option Int) : dSl (.lst ds) lo hi S = .ok (.lst (cutD ds lo hi)) S := rfl
@[simp] theorem x_comp (it : MI) (g : Tgt) (vs : List Nat) (t : MT) (e : ME) : mComp it g vs t e τ S = (it τ S).bind fun i S1 => guardR (i.ds.length ≤ sizeLine) ((lcL i.keep g vs t e i.ds τ S1).bind fun ys S2 => .ok (.lst ys) S2) := rfl
@[simp] theorem x_run (n m : Nat) (b : MS) (ds : List D) (Q : D → Sto → Prop) : wpR (runD n m b ds S) Q ↔ ds.length = n ∧ wpS (b (ds.map some ++ List.replicate (m - ds.length) none) S) (fun _ S => Q .non S) Q := by
  unfold runD
  split
  · rename_i h
    simp only [h, true_and]
    cases b (List.map some ds ++ List.replicate (m - n) none) S <;> exact Iff.rfl
  · rename_i h
    simp [h]
@[simp] theorem x_addI (i j : Int) : dAdd (.int i) (.int j) S = .ok (.int (i + j)) S := rfl
@[simp] theorem x_addT (xs ys : List D) : dAdd (.tup xs) (.tup ys) S = guardR (xs.length + ys.length ≤ sizeLine) (.ok (.tup (xs ++ ys)) S) := rfl
@[simp] theorem x_addL (xs ys : List D) : dAdd (.lst xs) (.lst ys) S = guardR (xs.length + ys.length ≤ sizeLine) (.ok (.lst (xs ++ ys)) S) := rfl
@[simp] theorem x_addS (x y : Str) : dAdd (.str x) (.str y) S = guardR (x.length + y.length ≤ sizeLine) (.ok (.str (x ++ y)) S) := rfl
@[simp] theorem x_subI (i j : Int) : dSub (.int i) (.int j) S = .ok (.int (i - j)) S := rfl
@[simp] theorem x_mulI (i j : Int) : dMul (.int i) (.int j) S = guardR ((-(2 ^ 64) < i ∧ i < 2 ^ 64) ∨ (-(2 ^ 64) < j ∧ j < 2 ^ 64)) (.ok (.int (i * j)) S) := rfl
@[simp] theorem x_mulT (xs : List D) (k : Int) : dMul (.tup xs) (.int k) S = guardR (xs.isEmpty = false ∧ 2 ≤ k ∧ k ≤ 1000 ∧ xs.length ≤ 1000) (.ok (.tup (List.replicate k.toNat xs).flatten) S) := rfl
@[simp] theorem x_modI (i j : Int) : dMod (.int i) (.int j) S = guardR (0 < j) (.ok (.int (i % j)) S) := rfl
@[simp] theorem x_fdivI (i j : Int) : dFdiv (.int i) (.int j) S = guardR (0 < j ∧ j < 1073741824) (.ok (.int (i / j)) S) := rfl
@[simp] theorem x_powI (i j : Int) : dPow (.int i) (.int j) S = guardR (0 ≤ j ∧ j ≤ 1000000 ∧ i.natAbs < 2 ^ 64) (.ok (.int (i ^ j.toNat)) S) := rfl
@[simp] theorem x_negI (i : Int) : dNeg (.int i) S = .ok (.int (-i)) S := rfl
@[simp] theorem x_lenT (ds : List D) : dLen [.tup ds] S = .ok (.int ds.length) S := rfl
@[simp] theorem x_lenL (ds : List D) : dLen [.lst ds] S = .ok (.int ds.length) S := rfl
@[simp] theorem x_lenC (ds : List D) : dLen [.scr ds] S = .ok (.int ds.length) S := rfl
@[simp] theorem x_listT (ds : List D) : dList [.tup ds] S = .ok (.lst ds) S := rfl
@[simp] theorem x_tupL (ds : List D) : dTuple [.lst ds] S = .ok (.tup ds) S := rfl
@[simp] theorem x_ixT (ds : List D) (i : Int) : dIx (.tup ds) (.int i) S = ofO (atI ds i) S := rfl
@[simp] theorem x_ixL (ds : List D) (i : Int) : dIx (.lst ds) (.int i) S = ofO (atI ds i) S := rfl
@[simp] theorem x_ixC (ds : List D) (i : Int) : dIx (.scr ds) (.int i) S = ofO (atI ds i) S := rfl
@[simp] theorem x_intI (i : Int) : dInt [.int i] S = .ok (.int i) S := rfl
@[simp] theorem x_intB (b : Bool) : dInt [.bl b] S = .ok (.int (if b then 1 else 0)) S := rfl
@[simp] theorem x_max (i j : Int) : dMax2 [.int i, .int j] S = .ok (.int (if j > i then j else i)) S := rfl
@[simp] theorem x_min (i j : Int) : dMin2 [.int i, .int j] S = .ok (.int (if j < i then j else i)) S := rfl
@[simp] theorem x_divmod (i j : Int) : dDivmod [.int i, .int j] S = guardR (0 < j ∧ j < 1073741824) (.ok (.tup [.int (i / j), .int (i % j)]) S) := rfl
@[simp] theorem x_itT (ds : List D) : itemsOf (.tup ds) S = some ⟨ds, []⟩ := rfl
@[simp] theorem x_itL (ds : List D) : itemsOf (.lst ds) S = some ⟨ds, []⟩ := rfl
@[simp] theorem x_itC (ds : List D) : itemsOf (.scr ds) S = some ⟨ds, []⟩ := rfl
@[simp] theorem x_pair {o : Option D} {P : D → Prop} : (∃ a, o = some a ∧ P a) ↔ ∃ a, o = some a ∧ P a := Iff.rfl
@[simp] theorem x_le (i j : Int) : dLe (.int i) (.int j) S = .ok (.bl (decide (i ≤ j))) S := by
  have : (!PySem.W.dataLt (.int j) (.int i)) = decide (i ≤ j) := by
    rw [PySem.W.dataLt_int]; by_cases h : i ≤ j
    · simp [h]
    · simp [h]; omega
  simp [dDat, toPy, toPyD, alikeB, PySem.W.alike, notNone, PyData.depth, this]
@[simp] theorem x_lt (i j : Int) : dLt (.int i) (.int j) S = .ok (.bl (decide (i < j))) S := by
  simp [dDat, toPy, toPyD, alikeB, PySem.W.alike, notNone, PyData.depth, PySem.W.dataLt_int]
@[simp] theorem x_gt (i j : Int) : dGt (.int i) (.int j) S = .ok (.bl (decide (j < i))) S := by
  simp [dDat, toPy, toPyD, alikeB, PySem.W.alike, notNone, PyData.depth, PySem.W.dataLt_int]
@[simp] theorem x_ge (i j : Int) : dGe (.int i) (.int j) S = .ok (.bl (decide (j ≤ i))) S := by
  have : (!PySem.W.dataLt (.int i) (.int j)) = decide (j ≤ i) := by
    rw [PySem.W.dataLt_int]; by_cases h : j ≤ i
    · simp [h]
    · simp [h]; omega
  simp [dDat, toPy, toPyD, alikeB, PySem.W.alike, notNone, PyData.depth, this]
@[simp] theorem x_eq (i j : Int) : dEq (.int i) (.int j) S = .ok (.bl (decide (i = j))) S := by
  simp [dDat, toPy, toPyD, plainB, PyData.plain, PyData.depth, PyData.eqv]
  rfl
@[simp] theorem x_ne (i j : Int) : dNe (.int i) (.int j) S = .ok (.bl (decide (i ≠ j))) S := by
  simp [dDat, toPy, toPyD, plainB, PyData.plain, PyData.depth, PyData.eqv]
  rfl
@[simp] theorem x_neS (x : Str) : dNe (.str x) (.str x) S = .ok (.bl false) S := by
  simp [dDat, toPy, toPyD, plainB, PyData.plain, PyData.depth, PyData.eqv]
@[simp] theorem x_neSS (x y : Str) : dNe (.str x) (.str y) S = .ok (.bl (!(x == y))) S := by
  simp [dDat, toPy, toPyD, plainB, PyData.plain, PyData.depth, PyData.eqv]
end
theorem atI_mem {ds : List D} {i : Int} (h0 : 0 ≤ i) (h : i < ds.length) : ∃ d, atI ds i = some d ∧ d ∈ ds ∧ ds[i.toNat]? = some d := by
  have hn : i.toNat < ds.length := by omega
  refine ⟨ds[i.toNat], ?_, List.getElem_mem hn, List.getElem?_eq_getElem hn⟩
  unfold atI ixN
  rw [if_pos h0, if_pos h]
  exact List.getElem?_eq_getElem hn
theorem cutD_mem {ds : List D} {lo hi : Option Int} {d : D} (h : d ∈ cutD ds lo hi) : d ∈ ds := List.mem_of_mem_drop (List.mem_of_mem_take h)
theorem cutD_len {ds : List D} {lo hi : Option Int} : (cutD ds lo hi).length ≤ ds.length := by
  unfold cutD
  rw [List.length_take, List.length_drop]
  omega
theorem stepD_mem {ds : List D} {k : Int} {d : D} (h : d ∈ stepD ds k) : d ∈ ds := by
  unfold stepD at h
  obtain ⟨j, _, h2⟩ := List.mem_filterMap.mp h
  exact List.mem_of_getElem? h2
theorem stepD_len {ds : List D} (h : ds.length ≤ 16) : (stepD ds (-1)).length ≤ 16 := by
  unfold stepD
  refine Nat.le_trans (List.length_filterMap_le _ _) ?_
  rw [List.length_range]
  generalize ds.length = n at h
  revert n
  decide +kernel
theorem wpR_noEx {A : Type} (o : R A) (Q : A → Sto → Prop) : wpR (noEx o) Q ↔ wpR o Q := by cases o <;> exact Iff.rfl
theorem for_wp {g : Tgt} {body : MS} {N : Tau → Sto → Prop} {T : D → Sto → Prop} (Inv : List D → Tau → Sto → Prop) (step : ∀ d ds τ S, Inv (d :: ds) τ S → ∃ τ1, bindT g d τ = some τ1 ∧ wpS (body τ1 S) (fun τ2 S2 => Inv ds τ2 S2) T)
    (fin : ∀ τ S, Inv [] τ S → N τ S) : ∀ ds τ S, Inv ds τ S → wpS (forL [] g body ds τ S) N T
  | [], τ, S, h => by
    unfold forL
    rw [keepB_nil, if_pos rfl]
    exact fin τ S h
  | d :: ds, τ, S, h => by
    unfold forL
    rw [keepB_nil, if_pos rfl]
    obtain ⟨τ1, e, w⟩ := step d ds τ S h
    rw [e]
    show wpS (match body τ1 S with | .nx τ2 S2 => forL [] g body ds τ2 S2 | .ct τ2 S2 => forL [] g body ds τ2 S2 | .bk τ2 S2 => .nx τ2 S2 | o => o) N T
    cases q : body τ1 S <;> rw [q] at w
    case nx τ2 S2 => exact for_wp Inv step fin ds τ2 S2 w
    all_goals first | exact False.elim w | exact w
theorem lc_wp {g : Tgt} {vs : List Nat} {t : MT} {e : ME} {τ : Tau} {I : Sto → Prop} {P : D → Prop} : ∀ (ds : List D), (∀ d ∈ ds, ∀ S, I S → ∃ τ1, bindT g d (wipeT τ vs) = some τ1 ∧ wpR (t τ1 S) fun b S1 => (b = true → wpR (e τ1 S1) fun y S2 => I S2 ∧ P y) ∧ (¬b = true → I S1)) →
    ∀ S, I S → wpR (lcL [] g vs t e ds τ S) fun ys S' => I S' ∧ ys.length ≤ ds.length ∧ ∀ y ∈ ys, P y
  | [], _, S, h => by
    unfold lcL
    rw [keepB_nil, if_pos rfl]
    exact ⟨h, by simp, by simp⟩
  | d :: ds, step, S, h => by
    unfold lcL
    rw [keepB_nil, if_pos rfl]
    obtain ⟨τ1, e1, w⟩ := step d (by simp) S h
    have rest := lc_wp (e := e) (t := t) (τ := τ) ds (fun d hd => step d (by simp [hd]))
    rw [e1]
    show wpR ((noEx (t τ1 S)).bind _) _
    rw [wpR_bind, wpR_noEx]
    refine wpR_imp w fun b S1 ⟨h1, h2⟩ => ?_
    cases b with
    | true =>
      rw [if_pos rfl, wpR_bind, wpR_noEx]
      refine wpR_imp (h1 rfl) fun y S2 ⟨h3, h4⟩ => ?_
      rw [wpR_bind]
      refine wpR_imp (rest S2 h3) fun ys S3 ⟨h5, h6, h7⟩ => ⟨h5, by simp; omega, fun z hz => ?_⟩
      rcases List.mem_cons.mp hz with rfl | hz
      · exact h4
      · exact h7 z hz
    | false =>
      rw [if_neg (by simp)]
      refine wpR_imp (rest S1 (h2 (by simp))) fun ys S3 ⟨h5, h6, h7⟩ => ⟨h5, by simp; omega, h7⟩
theorem lc_map {g : Tgt} {vs : List Nat} {e : ME} {τ : Tau} {S : Sto} (f : D → D) : ∀ (ds : List D), (∀ d ∈ ds, ∃ τ1, bindT g d (wipeT τ vs) = some τ1 ∧ e τ1 S = .ok (f d) S) → lcL [] g vs tYesM e ds τ S = .ok (ds.map f) S
  | [], _ => by
    unfold lcL
    rw [keepB_nil, if_pos rfl]
    rfl
  | d :: ds, step => by
    unfold lcL
    rw [keepB_nil, if_pos rfl]
    obtain ⟨τ1, e1, w⟩ := step d (by simp)
    have rest := lc_map f ds (fun d hd => step d (by simp [hd]))
    rw [e1]
    show (noEx (tYesM τ1 S)).bind _ = _
    simp only [tYesM, noEx_ok, R.bind_ok, if_true, w, rest, List.map_cons]

/-! ### trees that repr can show -/
def Gd : Nat → D → Bool
  | _, .non => true
  | _, .bl _ => true
  | _, .int i => decide (i.natAbs < 10 ^ 31)
  | _, .str x => decide (x.length ≤ 8) && x.cps.toList.all fun c => decide (c < 16 ^ 8)
  | k + 1, .tup ds => decide (ds.length ≤ 16) && ds.all (Gd k)
  | k + 1, .lst ds => decide (ds.length ≤ 16) && ds.all (Gd k)
  | _, _ => false
def Wd : Nat → Nat
  | 0 => 82
  | k + 1 => 16 * (Wd k + 2) + 3
theorem Gd_tup {k : Nat} {ds : List D} (h : ds.length ≤ 16) (h2 : ∀ d ∈ ds, Gd k d = true) : Gd (k + 1) (.tup ds) = true := by
  simp only [Gd, Bool.and_eq_true, decide_eq_true_eq, List.all_eq_true]; exact ⟨h, h2⟩
theorem Gd_lst {k : Nat} {ds : List D} (h : ds.length ≤ 16) (h2 : ∀ d ∈ ds, Gd k d = true) : Gd (k + 1) (.lst ds) = true := by
  simp only [Gd, Bool.and_eq_true, decide_eq_true_eq, List.all_eq_true]; exact ⟨h, h2⟩
theorem Wd_pos : ∀ k, 82 ≤ Wd k
  | 0 => Nat.le_refl _
  | k + 1 => by have := Wd_pos k; unfold Wd; omega
structure PyG (k : Nat) (d : D) (p : PyData) : Prop where
  py : toPyD d = some p
  sh : p.showable = true
  nd : p.hasDict = false
  dp : p.depth ≤ k
  ln : p.shown.length ≤ Wd k
theorem Gd_all {k : Nat} : ∀ {ds : List D}, (∀ d ∈ ds, ∃ p, PyG k d p) → ∃ ps, toPyDs ds = some ps ∧ PyData.showableAll ps = true ∧ PyData.hasDictAll ps = false ∧ PyData.depthAll ps ≤ k ∧ ((PyData.shownAll ps).map (·.length)).sum + 2 * (PyData.shownAll ps).length ≤ ds.length * (Wd k + 2)
  | [], _ => ⟨[], rfl, rfl, rfl, Nat.zero_le _, by simp [PyData.shownAll]⟩
  | d :: ds, h => by
    obtain ⟨p, hp⟩ := h d (by simp)
    obtain ⟨ps, h1, h2, h3, h4, h6⟩ := Gd_all (k := k) (ds := ds) fun d hd => h d (by simp [hd])
    refine ⟨p :: ps, ?_, ?_, ?_, ?_, ?_⟩
    · simp only [toPyDs, hp.py, h1]
    · simp only [PyData.showableAll, hp.sh, h2, Bool.and_self]
    · simp only [PyData.hasDictAll, hp.nd, h3, Bool.or_self]
    · simp only [PyData.depthAll]; have := hp.dp; omega
    · simp only [PyData.shownAll, List.map_cons, List.sum_cons, List.length_cons]
      have := hp.ln
      rw [Nat.add_mul]
      omega
theorem Gd_py : ∀ (k : Nat) (d : D), Gd k d = true → ∃ p, PyG k d p := by
  have atom : ∀ (k : Nat) (d : D) (p : PyData), toPyD d = some p → p.showable = true → p.hasDict = false → p.depth = 0 → p.shown.length ≤ 82 → ∃ p, PyG k d p := fun k d p h1 h2 h3 h4 h6 => ⟨p, h1, h2, h3, by omega, by have := Wd_pos k; omega⟩
  have hInt : ∀ (k : Nat) (i : Int), i.natAbs < 10 ^ 31 → ∃ p, PyG k (.int i) p := fun k i h => by
    refine atom k _ (.int i) rfl ?_ rfl rfl ?_
    · simp only [PyData.showable, decide_eq_true_eq]
      by_cases z : i.natAbs = 0
      · rw [z]; decide
      · rw [Nat.log2_lt z]
        exact Nat.lt_of_lt_of_le h (by decide +kernel)
    · have e := int_text_length_le10 (k := 31) (by decide) h
      have e2 : (PyData.shown (.int i)).length = (toString i).length := ofString_length _
      omega
  have hStr : ∀ (k : Nat) (x : Str), x.length ≤ 8 → x.cps.toList.all (fun c => decide (c < 16 ^ 8)) = true → ∃ p, PyG k (.str x) p := fun k x h h2 => atom k _ (.str x) rfl rfl rfl rfl (by
    have e := StrLaws.reprText_len x (by simpa only [List.all_eq_true, decide_eq_true_eq] using h2)
    have e2 : x.length = x.cps.size := rfl
    show (reprText x).length ≤ 82
    omega)
  intro k
  induction k with
  | zero =>
    intro d h
    cases d with
    | non => exact atom 0 _ .none rfl rfl rfl rfl (by decide)
    | bl b => exact atom 0 _ (.bool b) rfl rfl rfl rfl (by cases b <;> decide)
    | int i => exact hInt 0 i (by simpa only [Gd, decide_eq_true_eq] using h)
    | str x =>
      simp only [Gd, Bool.and_eq_true, decide_eq_true_eq] at h
      exact hStr 0 x h.1 h.2
    | _ => simp [Gd] at h
  | succ k ih =>
    intro d h
    cases d with
    | non => exact atom _ _ .none rfl rfl rfl rfl (by decide)
    | bl b => exact atom _ _ (.bool b) rfl rfl rfl rfl (by cases b <;> decide)
    | int i => exact hInt _ i (by simpa only [Gd, decide_eq_true_eq] using h)
    | str x =>
      simp only [Gd, Bool.and_eq_true, decide_eq_true_eq] at h
      exact hStr _ x h.1 h.2
    | tup ds =>
      simp only [Gd, Bool.and_eq_true, decide_eq_true_eq, List.all_eq_true] at h
      obtain ⟨ps, h1, h2, h3, h4, h6⟩ := Gd_all (k := k) fun d hd => ih d (h.2 d hd)
      refine ⟨.tuple ps, by simp [toPyD, h1], by simpa [PyData.showable] using h2, by simpa [PyData.hasDict] using h3, by simp only [PyData.depth]; omega, ?_⟩
      have e := tupleText_len_le (PyData.shownAll ps)
      have e2 := Nat.mul_le_mul_right (Wd k + 2) h.1
      show (tupleText (PyData.shownAll ps)).length ≤ 16 * (Wd k + 2) + 3
      omega
    | lst ds =>
      simp only [Gd, Bool.and_eq_true, decide_eq_true_eq, List.all_eq_true] at h
      obtain ⟨ps, h1, h2, h3, h4, h6⟩ := Gd_all (k := k) fun d hd => ih d (h.2 d hd)
      refine ⟨.list ps, by simp [toPyD, h1], by simpa [PyData.showable] using h2, by simpa [PyData.hasDict] using h3, by simp only [PyData.depth]; omega, ?_⟩
      have e := listText_len_le (PyData.shownAll ps)
      have e2 := Nat.mul_le_mul_right (Wd k + 2) h.1
      show (listText (PyData.shownAll ps)).length ≤ 16 * (Wd k + 2) + 3
      omega
    | _ => simp [Gd] at h
theorem toPy_of {d : D} {S : Sto} {p : PyData} (h : toPyD d = some p) : toPy d S = some p := by
  cases d <;> first | exact h | simp [toPyD] at h
theorem repr_wp {d : D} {S : Sto} (h : Gd 4 d = true ∨ d = .dct [] []) : ∃ x, dRepr [d] S = .ok (.str x) S := by
  rcases h with h | rfl
  · obtain ⟨p, hp⟩ := Gd_py 4 d h
    have k : p.shown.length ≤ sizeLine := by
      have h2 := hp.ln
      have h3 : Wd 4 = 5526867 := by decide
      have h5 : sizeLine = 16777216 := rfl
      omega
    have kd : p.depth ≤ 64 := by have := hp.dp; omega
    refine ⟨p.shown, ?_⟩
    show (match toPy d S with | some p => _ | none => _) = _
    rw [toPy_of hp.py]
    simp [reprOk, hp.sh, hp.nd, kd, k]
  · exact ⟨_, rfl⟩
theorem repr_bl {b : Bool} {S : Sto} : ∃ x, dRepr [.bl b] S = .ok (.str x) S := repr_wp (.inl rfl)

/-! ### isinstance -/
def isTupD : D → Bool
  | .tup _ => true
  | _ => false
def isIntD : D → Bool
  | .int _ => true
  | .bl _ => true
  | _ => false
def isBlD : D → Bool
  | .bl _ => true
  | _ => false
theorem isa_tup {d : D} {p : PyData} {S : Sto} (h : toPyD d = some p) : dIsa [d, .ob (.ty "tuple")] S = .ok (.bl (isTupD d)) S := by
  show (match toPy d S with | some p => _ | none => _) = _
  rw [toPy_of h]
  cases d <;> simp only [toPyD, Option.some.injEq, Option.map_eq_some_iff, reduceCtorEq] at h <;> first | (subst h; rfl) | (obtain ⟨_, _, rfl⟩ := h; rfl)
theorem isa_int {d : D} {p : PyData} {S : Sto} (h : toPyD d = some p) : dIsa [d, .ob (.ty "int")] S = .ok (.bl (isIntD d)) S := by
  show (match toPy d S with | some p => _ | none => _) = _
  rw [toPy_of h]
  cases d <;> simp only [toPyD, Option.some.injEq, Option.map_eq_some_iff, reduceCtorEq] at h <;> first | (subst h; rfl) | (obtain ⟨_, _, rfl⟩ := h; rfl)
theorem isa_bool {d : D} {p : PyData} {S : Sto} (h : toPyD d = some p) : dIsa [d, .ob (.ty "bool")] S = .ok (.bl (isBlD d)) S := by
  show (match toPy d S with | some p => _ | none => _) = _
  rw [toPy_of h]
  cases d <;> simp only [toPyD, Option.some.injEq, Option.map_eq_some_iff, reduceCtorEq] at h <;> first | (subst h; rfl) | (obtain ⟨_, _, rfl⟩ := h; rfl)

/-! ### the pen -/
def Pen (l : Nat) (S : Sto) : Prop := ∃ a b : Int, S[l]? = some (.lst [.int a, .int b])
theorem Pen.set {l : Nat} {S : Sto} {c d : Int} (h : Pen l S) : Pen l (S.set l (.lst [.int c, .int d])) := by
  obtain ⟨a, b, h⟩ := h
  exact ⟨c, d, List.getElem?_set_self (List.getElem?_eq_some_iff.mp h).1⟩
theorem Pen.push {l : Nat} {S : Sto} {c : C} (h : Pen l S) : Pen l (S ++ [c]) := by
  obtain ⟨a, b, h⟩ := h
  exact ⟨a, b, by rw [List.getElem?_append_left (List.getElem?_eq_some_iff.mp h).1]; exact h⟩
theorem Pen.lt {l : Nat} {S : Sto} (h : Pen l S) : l < S.length := by
  obtain ⟨a, b, h⟩ := h
  exact (List.getElem?_eq_some_iff.mp h).1
/-- the pen's cell alone may differ -/
structure Fr (l : Nat) (S S' : Sto) : Prop where
  len : S'.length = S.length
  eq : ∀ j, j ≠ l → S'[j]? = S[j]?
theorem Fr.refl (l : Nat) (S : Sto) : Fr l S S := ⟨rfl, fun _ _ => rfl⟩
theorem Fr.trans {l : Nat} {S S' S'' : Sto} (a : Fr l S S') (b : Fr l S' S'') : Fr l S S'' := ⟨b.len.trans a.len, fun j h => (b.eq j h).trans (a.eq j h)⟩
theorem Fr.set (l : Nat) (S : Sto) (c : C) : Fr l S (S.set l c) := ⟨by simp, fun j h => by rw [List.getElem?_set_ne (Ne.symm h)]⟩
noncomputable def drawZ : List D → Sto → R D := runD 2 5 (sSeq (sIf (mB (mBin dEq (mBin dIx (mVar 0) (mC (.int 1))) (mC (.int 1)))) (sSeq (sTup [3, 4] (mCall dDivmod (aCons (mBin dIx (mVar 0) (mC (.int 0))) (aCons (mVar 1) aNil))))
  (sSeq (sSub (mVar 0) (mC (.int 0)) (mVar 3))
  (sRet (mVar 4)))) sNil)
  (sSeq (sAsg 2 (mBin dMod (mBin dMul (mBin dAdd (mBin dMod (mBin dIx (mVar 0) (mC (.int 0))) (mC (.int 2147483647))) (mC (.int 40503))) (mC (.int 69621))) (mC (.int 2147483629))))
  (sSeq (sAsg 2 (mBin dMod (mBin dAdd (mBin dMul (mVar 2) (mVar 2)) (mC (.int 7817))) (mC (.int 2147483587))))
  (sSeq (sSub (mVar 0) (mC (.int 0)) (mBin dMod (mBin dAdd (mBin dMul (mVar 2) (mC (.int 48271))) (mC (.int 11))) (mC (.int 2147483629))))
  (sRet (mBin dMod (mBin dFdiv (mBin dIx (mVar 0) (mC (.int 0))) (mC (.int 32))) (mVar 1)))))))
theorem x_ixLoc {l : Nat} {S : Sto} {ds : List D} {i : Int} (h : S[l]? = some (.lst ds)) : dIx (.loc l) (.int i) S = ofO (atI ds i) S := by
  simp [dIx, seqR, listR, h]
theorem draw_wp {l : Nat} {n : Int} {S : Sto} {Q : D → Sto → Prop} (hp : Pen l S) (h0 : 0 < n) (h1 : n < 1073741824) (k : ∀ r S', 0 ≤ r → r < n → Pen l S' → Fr l S S' → Q (.int r) S') : wpR (drawZ [.loc l, .int n] S) Q := by
  obtain ⟨a, b, h⟩ := hp
  have hl := (List.getElem?_eq_some_iff.mp h).1
  have i0 : ∀ x y : Int, atI [D.int x, D.int y] 0 = some (.int x) := fun _ _ => rfl
  have i1 : ∀ x y : Int, atI [D.int x, D.int y] 1 = some (.int y) := fun _ _ => rfl
  have gs : ∀ c, (S.set l c)[l]? = some c := fun c => List.getElem?_set_self hl
  unfold drawZ
  simp [x_ixLoc h, i0, i1, h0, h1, h, setAll, bindT, ixN, x_ixLoc (gs _)]
  refine ⟨fun _ => ?_, fun _ => ?_⟩
  · exact k _ _ (Int.emod_nonneg _ (by omega)) (Int.emod_lt_of_pos _ h0) ⟨_, _, gs _⟩ (Fr.set _ _ _)
  · refine ⟨?_, ?_⟩
    · have := Int.emod_nonneg ((a % 2147483647 + 40503) * 69621) (b := 2147483629) (by omega)
      have := Int.emod_lt_of_pos ((a % 2147483647 + 40503) * 69621) (b := 2147483629) (by omega)
      omega
    · exact k _ _ (Int.emod_nonneg _ (by omega)) (Int.emod_lt_of_pos _ h0) ⟨_, _, gs _⟩ (Fr.set _ _ _)
end Z

/-! Z11: set(xs) of ints, sorted(set(xs)); a list made by + that will be changed. -/
namespace Z
open PySem PySem.Spec L2
section
variable {P : Program} {w : World} {A : Around} {E : Value → Shared → Prop} {s : Shared}
abbrev newSet (w : World) : Obj := { cls := .type "set", dict := none, data := .set #[] 0 (.fresh 0 0 (!w.params.followText "set-order")) }
abbrev afterSet (w : World) (s : Shared) (ns : List Int) (r : Value) (z : Shared) : Prop := r = .none ∧ ∃ h' tk c, z = { s with heap := h', toks := tk } ∧ SetR w h' s.heap.objs.size (fun j => decide (j ∈ ns)) c ∧ c ≤ ns.length ∧ ∀ b o, s.heap.get? b = some o → h'.get? b = some o
/-- set(xs) of a list of ints: what SetFor says of a tuple -/
theorem set_of_list {l : Addr} {its : Array Value} (ns : List Int) {Q : Value → Shared → Prop} (hh : A.handled = none) (hl : s.heap.IsList l its) (hi : PyProof.Rows.IntsAre its.toList ns) (hb : ns.length + 1 < scanBound)
    (k : ∀ (h' : Heap) (tk c : Nat), SetR w h' s.heap.objs.size (fun j => decide (j ∈ ns)) c → c ≤ ns.length → (∀ b o, s.heap.get? b = some o → h'.get? b = some o) → Q (.ref s.heap.objs.size) { s with heap := h', toks := tk }) :
    wpAny (model P w) A (call (.type "set") [.ref l]) Q E s := by
  have len : its.size = ns.length := (Array.length_toList (xs := its)).symm.trans (PyProof.Rows.IntsAre.length hi)
  have big : (s.heap.push (newSet w)).objs.size = s.heap.objs.size + 1 := Heap.size_push ..
  have mk := F.called_set
  obtain ⟨_, _, mro⟩ := mk.mro
  have g1 := mk.made
  have g2 := mk.sub
  refine wpAny_call (codeAny_of_tree ?_)
  show wpAny _ _ (callAny (.type "set") _) _ _ _
  refine wpAny_pure ⟨Code.quiet_builtin _ (by decide +kernel), codeAny_builtin F.entry_type_call ?_⟩
  rw [Around.under_plain (weight_type_call_type "set" [.ref l] []) rfl]
  have g3 := mk.notType
  have g4 := mk.canCreate
  have g5 := F.typeCall_set_1 (.ref l)
  repeat (any_goals (first | assumption | wp_step))
  refine codeAny_mono (code_set_led1 (.ref l) (E := E) (Q₁ := fun v z => v = .ref s.heap.objs.size ∧ z = { s with heap := s.heap.push (newSet w) }) ⟨rfl, rfl⟩) fun r z hr => ?_
  match r, hr with
  | .ok (.ret _), hr =>
    obtain ⟨rfl, rfl⟩ := hr
    have at0 : (s.heap.push (newSet w)).get? s.heap.objs.size = some (newSet w) := Heap.get?_push_size _ rfl
    have ty : Shared.TypeIs { s with heap := s.heap.push (newSet w) } (.ref s.heap.objs.size) "set" := ⟨_, at0, rfl⟩
    have g6 := mk.init.lookup
    have g7 := mk.init.bind (.ref s.heap.objs.size)
    repeat (any_goals (first | assumption | wp_step))
    refine codeAny_mono (codeAny_call_builtin (R := wants (afterSet w s ns) E) mk.init.plain F.entry_set_init (check_set_init_1 ty ?_)) fun r2 z2 hr2 => ?_
    · obtain ⟨ol, hol, hcl, nl, hdl⟩ := hl
      obtain ⟨c0, d0, b0, t0⟩ := ol
      simp only at hcl hdl
      subst hcl; subst hdl
      have hol1 := Heap.get?_push_of_some (newSet w) hol
      have g8 := F.sub_list_set
      have g9 := F.sub_list_frozenset
      have g10 : (Value.type "list" == Value.type "dict") = false := by decide
      have il : (s.heap.push (newSet w)).IsList l its := ⟨_, hol1, rfl, nl, rfl⟩
      have lt := Heap.lt_size hol
      unfold Builtin.«set.__init__» noKeywords Builtin.Frozenset.updateFrom
      generalize hPI : pyIter = PI
      wp_walk
      subst hPI
      refine wpAny_pyIter_list il (wpAny_bind (wpAny_runValue ?_))
      have hh2 : A.in1.in1.in1.handled = none := by simp [hh]
      have ne1 : l ≠ (s.heap.push (newSet w)).objs.size := Nat.ne_of_lt (by rw [big]; exact Nat.lt_succ_of_lt lt)
      have ne2 : s.heap.objs.size ∉ [(s.heap.push (newSet w)).objs.size, l] := by
        simp only [List.mem_cons, List.not_mem_nil, or_false, not_or]
        exact ⟨Nat.ne_of_lt (by rw [big]; exact Nat.lt_succ_self _), Nat.ne_of_gt lt⟩
      have vals : ∀ (i : Nat) (v : Value), its[i]? = some v → ∃ k t, ns[i]? = some k ∧ v = .int k t := fun i v e => by
        have hlt : i < ns.length := by rw [← len]; exact (Array.getElem?_eq_some_iff.mp e).1
        obtain ⟨t, e2⟩ := PyProof.Rows.IntsAre.int_at hi i v (by rw [Array.getElem?_toList]; exact e)
        exact ⟨_, t, List.getElem?_eq_getElem hlt, by rw [e2, List.getD_eq_getElem?_getD, List.getElem?_eq_getElem hlt] <;> rfl⟩
      refine set_update_ints ((Walks.list hh2 _ l ne1 its).toS) s.heap.objs.size ne2 ns len hb vals (its.size - 0) 0 _ (by omega) (Nat.zero_le _) ⟨⟨_, Heap.get?_push_size _ rfl, rfl, rfl⟩, il.push _⟩ ⟨0, Nat.le_refl 0, setR_new_at (Heap.get?_push_of_some _ at0)⟩ fun z3 c3 hm hc3 hS3 => ?_
      obtain ⟨h3, q3, d3, t3, o3⟩ := z3
      have e1 : q3 = s.gens := hm.gens
      have e2 : d3 = s.drawn := hm.drawn
      have e3 : o3 = s.os := hm.os
      subst e1; subst e2; subst e3
      show wpAny _ _ _ _ _ _
      refine wpAny_pure ?_
      show wpAny _ _ (ret Value.none) _ _ _
      refine wpAny_pure ⟨rfl, h3, t3, c3, rfl, hS3, by omega, fun b o e => hm.heap b o ?_ (Heap.get?_push_of_some _ (Heap.get?_push_of_some _ e))⟩
      have lt2 := Heap.lt_size e
      simp only [List.mem_cons, List.not_mem_nil, or_false, not_or]
      exact ⟨Nat.ne_of_lt lt2, Nat.ne_of_lt (by rw [big]; exact Nat.lt_succ_of_lt lt2)⟩
    · match r2, hr2 with
      | .ok (.ret _), hr2 =>
        obtain ⟨rfl, h3, t3, c3, rfl, hS3, hc3, hk3⟩ := hr2
        repeat (any_goals (first | assumption | wp_step))
        exact k _ _ _ hS3 hc3 hk3
      | .error _, hr2 => exact hr2
  | .error _, hr => exact hr
end
end Z

/-! Z12: sorted(set(xs)) of ints; a list made by + that will be changed. -/
namespace Z
open PySem PySem.Spec L2
/-! ### set(xs), sorted(set(xs)), of ints -/
section
variable {X : Cx}
def rSetI (X : Cx) : List V → Hp → VK → Prop := fun vs H Q => ∃ (a : Addr) (ns : List Int), vs = [.ref a] ∧ (SqL X.K H a (ns.map V.int) ∨ SqT X.K H a (ns.map V.int)) ∧ ns.length < 64 ∧
  ∀ p c, H p = none → c ≤ ns.length → Q (.ref p) (upd H p (SetO X.w p (fun j => decide (j ∈ ns)) c))
theorem cr_setI (hc : X.calm = true) : CallR X (.type "set") (rSetI X) := by
  intro pins s σ H vs us Q I r ⟨a, ns, e, hq, h64, q⟩
  subst e
  rw [Vals.ref1 r]
  have room : ns.length + 1 < scanBound := by unfold scanBound; omega
  have fin : ∀ (h' : Heap) (tk c : Nat), SetR X.w h' s.heap.objs.size (fun j => decide (j ∈ ns)) c → c ≤ ns.length → (∀ b o, s.heap.get? b = some o → h'.get? b = some o) → EP X pins σ Q (.ref s.heap.objs.size) { s with heap := h', toks := tk } := fun h' tk c R hcn k =>
    ⟨.ref _, upd H s.heap.objs.size (SetO X.w s.heap.objs.size (fun j => decide (j ∈ ns)) c), I.laid (t' := tk) (fun b u e => k b u e) (Nat.le_refl _) (setO_new R), rfl, q _ c (I.hok.fresh (Nat.le_refl _)) hcn⟩
  rcases hq with hq | hq
  · obtain ⟨its, rv, pl, _⟩ := I.list hq
    exact set_of_list ns (I.ok.hd hc) pl.isList (by simpa using rv.ints) room fin
  · obtain ⟨its, rv, pt, _⟩ := I.tuple hq
    exact call_set_tupI ns (I.ok.hd hc) (show s.heap.IsTuple a its.toArray from pt) (by simpa using rv.ints) room fin
end
/-- put into a row that rises -/
def insU (x : Int) : List Int → List Int
  | [] => [x]
  | y :: ys => if x < y then x :: y :: ys else if x = y then y :: ys else y :: insU x ys
def sortSet : List Int → List Int
  | [] => []
  | x :: xs => insU x (sortSet xs)
theorem insU_mem {x z : Int} : ∀ {l : List Int}, z ∈ insU x l ↔ z = x ∨ z ∈ l
  | [] => by simp [insU]
  | y :: ys => by
    unfold insU
    split
    · simp
    · split
      · rename_i h; subst h; simp
      · simp only [List.mem_cons, insU_mem (l := ys)]
        constructor
        · rintro (h | h | h) <;> simp [h]
        · rintro (h | h | h) <;> simp [h]
theorem insU_up {x : Int} : ∀ {l : List Int}, l.Pairwise (· < ·) → (insU x l).Pairwise (· < ·)
  | [], _ => by simp [insU]
  | y :: ys, h => by
    have hy := List.pairwise_cons.mp h
    unfold insU
    split
    · rename_i hx
      refine List.pairwise_cons.mpr ⟨fun z hz => ?_, h⟩
      rcases List.mem_cons.mp hz with rfl | hz
      · exact hx
      · have := hy.1 z hz; omega
    · split
      · exact h
      · refine List.pairwise_cons.mpr ⟨fun z hz => ?_, insU_up hy.2⟩
        rcases insU_mem.mp hz with rfl | hz
        · omega
        · exact hy.1 z hz
theorem sortSet_mem {z : Int} : ∀ {l : List Int}, z ∈ sortSet l ↔ z ∈ l
  | [] => by simp [sortSet]
  | x :: xs => by simp only [sortSet, insU_mem, sortSet_mem (l := xs), List.mem_cons]
theorem sortSet_up : ∀ {l : List Int}, (sortSet l).Pairwise (· < ·)
  | [] => by simp [sortSet]
  | x :: xs => insU_up (sortSet_up (l := xs))
theorem up_unique : ∀ {l m : List Int}, l.Pairwise (· < ·) → m.Pairwise (· < ·) → (∀ z, z ∈ l ↔ z ∈ m) → l = m
  | [], [], _, _, _ => rfl
  | [], y :: m, _, _, h => by have := (h y).mpr (by simp); simp at this
  | x :: l, [], _, _, h => by have := (h x).mp (by simp); simp at this
  | x :: l, y :: m, h1, h2, h => by
    have p1 := List.pairwise_cons.mp h1
    have p2 := List.pairwise_cons.mp h2
    have e : x = y := by
      have a := (h x).mp (by simp)
      have b := (h y).mpr (by simp)
      rcases List.mem_cons.mp a with a | a
      · exact a
      · rcases List.mem_cons.mp b with b | b
        · exact b.symm
        · have := p2.1 x a; have := p1.1 y b; omega
    subst e
    rw [up_unique p1.2 p2.2 fun z => ⟨fun hz => ?_, fun hz => ?_⟩]
    · rcases List.mem_cons.mp ((h z).mp (by simp [hz])) with e | hz'
      · subst e; have := p1.1 z hz; omega
      · exact hz'
    · rcases List.mem_cons.mp ((h z).mpr (by simp [hz])) with e | hz'
      · subst e; have := p2.1 z hz; omega
      · exact hz'
def intsOf : List D → Option (List Int)
  | [] => some []
  | .int i :: ds => (intsOf ds).map (i :: ·)
  | _ :: _ => none
theorem ints_vrs {K : PySem.W.Frag} {ρ : Pl} {H : Hp} : ∀ {vs : List V} {ds : List D} {ns : List Int}, VRs K ρ H vs ds → intsOf ds = some ns → vs = ns.map V.int
  | _, _, ns, .nil, h => by simp [intsOf] at h; subst h; rfl
  | _, _, ns, .cons r rs, h => by
    cases r <;> simp only [intsOf, Option.map_eq_some_iff, reduceCtorEq] at h
    obtain ⟨ms, h1, rfl⟩ := h
    rw [ints_vrs rs h1]; rfl
theorem vrs_ints {K : PySem.W.Frag} {ρ : Pl} {H : Hp} : ∀ ns : List Int, VRs K ρ H (ns.map V.int) (ns.map D.int)
  | [] => .nil
  | n :: ns => .cons (.int n) (vrs_ints ns)
def dSortSet : D → Sto → R D := fun d S => match seqR d S with
  | some ds => match intsOf ds with
    | some ns => guardR (ns.length < 64) (.ok (.lst ((sortSet ns).map D.int)) S)
    | none => .bad
  | none => .bad
def dAddN : D → D → Sto → R D := fun x y S => match listD x S, listD y S with
  | some xs, some ys => guardR (xs.length + ys.length ≤ sizeLine) (.ok (.loc S.length) (S ++ [.lst (xs ++ ys)]))
  | _, _ => .bad
theorem dAddN_ok {K : PySem.W.Frag} : OpS K dAddN rCat := fun Wk ρ S H x y dx dy Q s rx ry h => by
  unfold dAddN at h
  split at h
  · rename_i xs ys h1 h2
    obtain ⟨hz, h⟩ := guardR_post h
    obtain ⟨a, vs, rfl, ha, hs⟩ := listD_of s rx h1
    obtain ⟨b, ws, rfl, hb, gs⟩ := listD_of s ry h2
    exact ⟨a, b, vs, ws, rfl, rfl, ha, hb, by rw [hs.length, gs.length]; exact hz, h.newLoc s (hs.append gs)⟩
  · exact h.elim
section
variable {X : Cx} {W : WX} {e a b : Expr} {m ma mb : ME} {p p2 q pos : Pos}
theorem z_addN (ha : PE X a (Em X.K W ma)) (hb : PE X b (Em X.K W mb)) : PE X (.BinOp a .Add b pos) (Em X.K W (mBin dAddN ma mb)) := z_bin op_cat dAddN_ok ha hb
theorem z_sortSet (hm : X.mg "sorted" = none) (hm2 : X.mg "set" = none) (he : PE X e (Em X.K W m)) (hc : X.calm = true := by rfl) (hg : Gl X "sorted" := by rfl) (hg2 : Gl X "set" := by rfl)
    (hs : starEach [e] X.env = (false, eval e X.env) :: starEach [] X.env := by rfl) (hs2 : starEach [.Call (.Name "set" p2) [e] [] q] X.env = (false, eval (.Call (.Name "set" p2) [e] [] q) X.env) :: starEach [] X.env := by rfl) (hpl : (backTo q (starEach [] X.env)).any (·.1) = false := by rfl) (hpl2 : (backTo pos (starEach [] X.env)).any (·.1) = false := by rfl) :
    PE X (.Call (.Name "sorted" p) [.Call (.Name "set" p2) [e] [] q] [] pos) (Em X.K W (mUn dSortSet m)) := by
  refine PE_imp (pe_callB (cr_sortedSet hc) hg hm PyProof.Rows.boot_sorted (pa_cons (pe_callTy (cr_setI hc) hg2 hm2 PyProof.Rows.boot_set (pa_cons he pa_nil hs) (he := hs) (hpl := hpl)) pa_nil hs2) (he := hs2) (hpl := hpl2)) fun σ H Q h => ?_
  obtain ⟨ρ, τ, S, s, r, p1⟩ := h
  refine Em_bind s r p1 fun ρ1 H1 S1 v d s1 r1 x1 v1 p1 => ?_
  unfold dSortSet at p1
  split at p1
  · rename_i ds e1
    obtain ⟨a, xs, rfl, h1, h2⟩ := seqR_of s1 v1 e1
    split at p1
    · rename_i ns e2
      obtain ⟨h64, p1⟩ := guardR_post p1
      have ex := ints_vrs h2 e2
      subst ex
      refine ⟨a, ns, rfl, h1, h64, fun q1 c hq1 hc1 => ⟨q1, _, c, rfl, upd_same, by omega, fun ns' q2 up mem len hq2 => ?_⟩⟩
      have en : ns' = sortSet ns := up_unique up sortSet_up fun z => by rw [mem z, sortSet_mem, decide_eq_true_eq]
      subst en
      exact p1 ρ1 _ _ ((Ext.fresh hq1).trans (Ext.fresh hq2)) ((s1.laid hq1).laid hq2) (.lst upd_same ((s1.laid hq1).fresh hq2) (vrs_ints _))
    · exact p1.elim
  · exact p1.elim
theorem z_call0 {x : Str} {f : List D → Sto → R D} {k : Nat} {g : Addr} {fd : FuncData} {ps : List Str} (F : FnG X.prog X.w X.K X.mg X.base k g fd ps f) (hr : Room k X.A) (hgd : X.A.guards = some []) (hm : X.mg x = some (.ref g)) (hk : PySem.W.keepIn X.K (.ref g) = true) (hb : Binds X.K fd ps [])
    (hx : ∀ σ, PassesAt (L2.CX X.prog X.w) X σ (fun c d H => W c d σ H)) (hg : Gl X x := by rfl) (hdb : (x == ("__debug__" : Str)) = false := by decide) : PE X (.Call (.Name x p) [] [] pos) (Em X.K W (mCall f aNil)) := by
  constructor
  intro pins st σ H Q I h
  obtain ⟨ρ, τ, S, s, er, po⟩ := h
  apply wpAny_Call_Name_kw
  apply ld_glob I hg hm _ hdb
  exact PySem.W.callWith_K0 I.kIn hk (run_G (us := []) F hr hgd hb hx I .nil ⟨ρ, S, [], s, .nil, po⟩)
end
end Z

/-! Z13: more of the plain side, for all laws. -/
namespace Z
open PySem L2
theorem wp_eq {A : Type} {o : R A} {x : A} {S : Sto} (h : wpR o fun a S' => a = x ∧ S' = S) : o = .ok x S := by
  obtain ⟨a, S', e, rfl, rfl⟩ := wpR_get h
  exact e
def Has (d : D) : Prop := ∃ p, toPyD d = some p
theorem has_all : ∀ {ds : List D} {ps : List PyData}, toPyDs ds = some ps → ∀ d ∈ ds, Has d
  | [], _, _, d, h => by cases h
  | e :: ds, ps, q, d, h => by
    simp only [toPyDs] at q
    split at q
    · rename_i p qs h1 h2
      rcases List.mem_cons.mp h with rfl | h
      · exact ⟨_, h1⟩
      · exact has_all h2 d h
    · cases q
theorem has_tup {ds : List D} (h : Has (.tup ds)) : ∀ d ∈ ds, Has d := by
  obtain ⟨p, h⟩ := h
  simp only [toPyD, Option.map_eq_some_iff] at h
  obtain ⟨ps, h, _⟩ := h
  exact has_all h
def num (d : D) (lo hi : Int) : Bool := match d with | .int i => decide (lo ≤ i) && decide (i ≤ hi) | _ => false
theorem num_int {d : D} {lo hi : Int} (h : num d lo hi = true) : ∃ i, d = .int i ∧ lo ≤ i ∧ i ≤ hi := by
  cases d <;> simp [num] at h
  exact ⟨_, rfl, h.1, h.2⟩
def iv : D → Int
  | .int i => i
  | _ => 0
theorem three {ds : List D} (h : ds.length = 3) : ∃ a b c, ds = [a, b, c] := by
  match ds, h with
  | [a, b, c], _ => exact ⟨a, b, c, rfl⟩
theorem four {ds : List D} (h : ds.length = 4) : ∃ a b c d, ds = [a, b, c, d] := by
  match ds, h with
  | [a, b, c, d], _ => exact ⟨a, b, c, d, rfl⟩
theorem at0 {a : D} {r : List D} : atI (a :: r) 0 = some a := by simp [atI, ixN]
theorem atI_nat {ds : List D} {n : Nat} (h : n < ds.length) : atI ds (n : Int) = ds[n]? := by
  unfold atI ixN
  rw [if_pos (by omega), if_pos (by omega)]
  rfl
theorem at1 {a b : D} {r : List D} : atI (a :: b :: r) 1 = some b := atI_nat (n := 1) (by simp)
theorem at2 {a b c : D} {r : List D} : atI (a :: b :: c :: r) 2 = some c := atI_nat (n := 2) (by simp)
theorem at3 {a b c d : D} {r : List D} : atI (a :: b :: c :: d :: r) 3 = some d := atI_nat (n := 3) (by simp)
theorem bools_map (f : D → Bool) : ∀ ds : List D, boolsOf (ds.map fun d => D.bl (f d)) = some (ds.map f)
  | [] => rfl
  | d :: ds => by simp [boolsOf, bools_map f ds]
theorem all_map (f : D → Bool) (ds : List D) (S : Sto) : dAll [.lst (ds.map fun d => D.bl (f d))] S = .ok (.bl (ds.all f)) S := by
  simp [dAll, listR, bools_map]
theorem zip_mem {ds es : List D} {x : D} : x ∈ List.zipWith (fun a b => D.tup [a, b]) ds es → ∃ a b, x = .tup [a, b] ∧ a ∈ ds ∧ b ∈ es := by
  induction ds generalizing es with
  | nil => intro h; simp at h
  | cons d ds ih =>
    intro h
    cases es with
    | nil => simp at h
    | cons e es =>
      rw [List.zipWith_cons_cons] at h
      rcases List.mem_cons.mp h with rfl | h
      · exact ⟨d, e, rfl, by simp, by simp⟩
      · obtain ⟨a, b, h1, h2, h3⟩ := ih h
        exact ⟨a, b, h1, by simp [h2], by simp [h3]⟩
theorem cutD1 (ds : List D) : cutD ds (some 1) none = ds.drop 1 := by
  unfold cutD
  have e1 : HT.sIx ds.length 0 (some 1) = min 1 ds.length := HT.sIx_nat _ _ 1
  have e2 : HT.sIx ds.length ds.length none = ds.length := rfl
  rw [e1, e2]
  cases ds with
  | nil => rfl
  | cons d r =>
    have : min 1 (d :: r).length = 1 := by simp
    rw [this]
    simp
theorem pick {ds : List D} {i : Int} {Q : D → Prop} (P : D → Prop) (h : ∀ d ∈ ds, P d) (h0 : 0 ≤ i) (h1 : i < ds.length) (k : ∀ d, P d → Q d) : ∃ a, atI ds i = some a ∧ Q a := by
  obtain ⟨d, e, m, _⟩ := atI_mem h0 h1
  exact ⟨d, e, k d (h d m)⟩
theorem hz : sizeLine = 16777216 := rfl
theorem sIx0 {n d : Nat} {i : Int} (h : 0 ≤ i) : HT.sIx n d (some i) = min i.toNat n := by
  have := HT.sIx_nat n d i.toNat
  rwa [Int.toNat_of_nonneg h] at this
theorem cut_lo {ds : List D} {n : Int} (h : 0 ≤ n) : (cutD ds none (some n)).length ≤ n.toNat := by
  unfold cutD
  rw [List.length_take, List.length_drop, sIx0 h]
  omega
theorem cut_hi {ds : List D} {n : Int} (h : 0 ≤ n) : (cutD ds (some n) none).length ≤ ds.length - n.toNat := by
  unfold cutD
  rw [List.length_take, List.length_drop, sIx0 h]
  omega
theorem Gd_mono : ∀ (k : Nat) (d : D), Gd k d = true → Gd (k + 1) d = true
  | 0, d, h => by cases d <;> simp_all [Gd]
  | k + 1, d, h => by
    cases d with
    | tup ds =>
      simp only [Gd, Bool.and_eq_true, decide_eq_true_eq, List.all_eq_true] at h
      exact Gd_tup h.1 fun d hd => Gd_mono k d (h.2 d hd)
    | lst ds =>
      simp only [Gd, Bool.and_eq_true, decide_eq_true_eq, List.all_eq_true] at h
      exact Gd_lst h.1 fun d hd => Gd_mono k d (h.2 d hd)
    | _ => simp_all [Gd]
theorem Gd_int {k : Nat} {i : Int} (h0 : -100000 < i) (h1 : i < 100000) : Gd k (.int i) = true := by
  have : i.natAbs < 10 ^ 31 := Nat.lt_trans (show i.natAbs < 100000 by omega) (by decide)
  cases k <;> simp only [Gd, decide_eq_true_eq] <;> exact this
def GD (d : D) : Prop := Gd 4 d = true ∨ d = .dct [] []
theorem GD.has {d : D} (h : GD d) : Has d := by
  rcases h with h | rfl
  · obtain ⟨p, hp⟩ := Gd_py 4 d h
    exact ⟨p, hp.py⟩
  · exact ⟨_, rfl⟩
theorem up4 {k : Nat} {d : D} (h : Gd k d = true) (hk : k ≤ 4) : Gd 4 d = true := by
  match k, hk with
  | 0, _ => exact Gd_mono 3 d (Gd_mono 2 d (Gd_mono 1 d (Gd_mono 0 d h)))
  | 1, _ => exact Gd_mono 3 d (Gd_mono 2 d (Gd_mono 1 d h))
  | 2, _ => exact Gd_mono 3 d (Gd_mono 2 d h)
  | 3, _ => exact Gd_mono 3 d h
  | 4, _ => exact h
end Z

/-! Z14: enumerate of a tuple; xs.extend(ys). -/
namespace Z
open PySem PySem.Spec L2

section
variable {P : Program} {w : World} {A : Around} {E : Value → Shared → Prop} {s : Shared}
abbrev enumObj (it : Addr) : Obj := { cls := .type "enumerate", data := .fields #[.none, .bool false, .ref it, rawInt 0, .none, .none] }
theorem enum_one {v : Value} {o : Obj} {H : Heap → Prop} (B : Begins v o H) :
    Meets (Builtin.«enumerate.__new__» ⟨[.type "enumerate", v], []⟩) (fun _ R z => H z.heap ∧ R (.ok (.ret (.ref (z.heap.push o).objs.size))) { z with heap := (z.heap.push o).push (enumObj z.heap.objs.size) }) :=
  .of_wp fun P w A R z hz => by
    obtain ⟨h0, g0, d0, t0, o0⟩ := z
    obtain ⟨hH, hR⟩ := hz
    have hsub := sub_enumerate
    have begin_ : ∀ {A' : Around} {E : Value → Shared → Prop} {Q : Value → Shared → Prop}, Q (.ref h0.objs.size) ⟨h0.push o, g0, d0, t0, o0⟩ → wpAny (model P w) A' (pyIter v) Q E ⟨h0, g0, d0, t0, o0⟩ :=
      fun q => B.iter P w _ _ ⟨h0, g0, d0, t0, o0⟩ _ hH q
    wp_walk using begin_
    refine wpAny_stack_any fun z => wpAny_pure ?_
    split
    · rename_i c _ _ _ _ _
      cases (c == Value.type "enumerate") <;>
      · wp_walk using begin_
        exact ⟨_, rfl, hR⟩
    · wp_walk using begin_
      exact ⟨_, rfl, hR⟩
theorem enum_call {v : Value} {o : Obj} {H : Heap → Prop} {Q : Value → Shared → Prop} (B : Begins v o H) (h1 : H s.heap)
    (k : ∀ h', IsEnum h' (s.heap.objs.size + 1) s.heap.objs.size 0 .none → h'.get? s.heap.objs.size = some o → (∀ b u, s.heap.get? b = some u → h'.get? b = some u) → Q (.ref (s.heap.objs.size + 1)) { s with heap := h' }) :
    wpAny (model P w) A (call (.type "enumerate") [v]) Q E s := by
  refine callType_new F.called_enumerate (by decide) (F.typeCall_enumerate_1 _) (F.newCall_enumerate_1 _) (fun u => F.args_object_init_2 u _) F.entry_enumerate_new (enum_one B) ⟨h1, ?_⟩
  have sz : (s.heap.push o).objs.size = s.heap.objs.size + 1 := Heap.size_push ..
  have at1 := Heap.get?_push_size (s.heap.push o) (o := enumObj s.heap.objs.size) rfl
  show _ ∧ _
  rw [sz] at at1 ⊢
  exact ⟨⟨_, at1, rfl⟩, k _ at1 (Heap.get?_push_of_some _ (Heap.get?_push_size _ B.free)) fun b u e => Heap.get?_push_of_some _ (Heap.get?_push_of_some _ e)⟩
end
/-- the tuple at a, each item in a new pair -/
def IteT (K : PySem.W.Frag) (a : Addr) : It :=
  ⟨fun i H => ∃ xs, SqT K H a xs ∧ i < xs.length, fun i H v H' => ∃ T x, v = .ref T ∧ H T = none ∧ H' = upd H T (.tup [.int (i : Nat), x]) ∧ ∀ xs, SqT K H a xs → xs[i]? = some x, fun i H => ∃ xs, SqT K H a xs ∧ i = xs.length⟩
theorem pair_cls {h : Heap} {a b : Addr} {o1 o2 : Obj} (h1 : h.get? a = some o1) (h2 : h.get? b = some o2) (hc : o1.cls ≠ o2.cls) : a ≠ b := fun e => by
  subst e
  rw [h1] at h2
  cases h2
  exact hc rfl
theorem turn_enumT {P : Program} {w : World} {K : PySem.W.Frag} {elts : List Expr} {kk : Nat} {tpos : Pos} (a e it : Addr) :
    Turn P w K (.Tuple elts kk tpos) (IteT K a) [e, it] e (fun i h => (∃ old, IsEnum h e it ((i : Nat) : Int) old) ∧ h.IsTupleIter it a i) where
  mem := by simp
  obj := fun i h st b hb => by
    obtain ⟨⟨old, he⟩, ⟨o, ho, hc, hd⟩⟩ := st
    rcases (show b = e ∨ b = it by simpa using hb) with rfl | rfl
    · exact ⟨_, he, fun v q => nomatch q⟩
    · exact ⟨o, ho, fun v q => by rw [hd] at q; cases q⟩
  keep := fun i h h' st k => ⟨let ⟨old, he⟩ := st.1; ⟨old, k e (by simp) _ he⟩, st.2.at fun o q => k it (by simp) o q⟩
  item := by
    intro X hP hw hK hc i pins s σ H E I hf st hg
    subst hP hw hK
    obtain ⟨⟨old, he⟩, hit⟩ := st
    obtain ⟨xs, hq, hi⟩ := hg
    obtain ⟨its, rv, p, hz⟩ := I.tuple hq
    obtain ⟨u, hu, ru⟩ := rv.get (List.getElem?_eq_getElem hi)
    have tup : s.heap.IsTuple a its.toArray := p
    have el := Heap.lt_size he
    have n1 : e ≠ it := let ⟨o, ho, c, _⟩ := hit; pair_cls he ho (by rw [c]; show Value.type "enumerate" ≠ Value.type "tuple_iterator"; decide)
    have n2 : e ≠ a := let ⟨o, ho, c, _⟩ := tup; pair_cls he ho (by rw [c]; show Value.type "enumerate" ≠ Value.type "tuple"; decide)
    have n3 : a ≠ it := let ⟨o, ho, c, _⟩ := tup; let ⟨o', ho', c', _⟩ := hit; pair_cls ho ho' (by rw [c, c']; decide)
    have il : it < s.heap.objs.size := let ⟨_, q, _⟩ := hit; Heap.lt_size q
    have lt : i < its.toArray.size := by rw [List.size_toArray, ← rv.length]; exact hi
    refine wpAny_pyNext_enum_itemD (Draws.tuple (A := X.A.in1) (by simp [I.ok.hd hc]) it a n3 its.toArray) he ⟨hit, tup⟩ lt n1 (by simp [n1, n2]) fun y h' tk hy ho hst hT hsz hk => ?_
    have ey : y = u := by
      have e1 : its.toArray[i]? = some u := by simpa using hu
      rw [e1] at hy
      exact (Option.some.inj hy).symm
    subst ey
    refine ⟨_, rfl, wpAny_letOwnedTupleGo_enum (s := { s with heap := h', toks := tk + 1 }) ho fun h2 he2 sb => ?_⟩
    have at2 : h2.get? s.heap.objs.size = some { cls := .type "tuple", data := .seq #[.int i tk, y] } := (sb.2 _ (Nat.ne_of_gt el)).trans hT
    have new : ObjOk X.prog X.w (upd H s.heap.objs.size (.tup [.int (i : Nat), xs[i]])) h2 s.heap.objs.size (.tup [.int (i : Nat), xs[i]]) :=
      ⟨by show 2 ≤ sizeLine; decide, [.int i tk, y], .cons ⟨_, rfl⟩ (.cons ru .nil), ⟨_, at2, rfl, _, rfl⟩⟩
    have I2 : Inv X pins σ (upd H s.heap.objs.size (.tup [.int (i : Nat), xs[i]])) { s with heap := h2, toks := tk + 1 } :=
      I.turnedNew (ch := [e, it]) (fun b ob hb q => (sb.2 b fun z => hb (by simp [z])).trans (hk b ob (fun z => hb (by simp [z])) (fun z => hb (by simp [z])) q)) hf (Nat.le_refl _) new
    refine ⟨.ref s.heap.objs.size, _, I2, rfl, ⟨_, xs[i], rfl, I.hok.fresh (Nat.le_refl _), rfl, fun zs hy => by rw [I.tuple_inj hy hq]; exact List.getElem?_eq_getElem hi⟩, ⟨⟨y, ?_⟩, hst.1.at fun o q => (sb.2 it (Ne.symm n1)).trans q⟩, fun b hb => ?_⟩
    · have e1 : ((i + 1 : Nat) : Int) = (i : Int) + 1 := by omega
      rw [e1]; exact he2
    · have lb : b < s.heap.objs.size := by
        rcases (show b = e ∨ b = it by simpa using hb) with rfl | rfl
        · exact el
        · exact il
      rw [upd_ne (Nat.ne_of_lt lb)]
      exact (hf b hb).1
  done := by
    intro X hP hw hK hc i pins s σ H E I hf st hg
    subst hP hw hK
    obtain ⟨⟨old, he⟩, hit⟩ := st
    obtain ⟨xs, hq, hx⟩ := hg
    obtain ⟨its, rv, p, hz⟩ := I.tuple hq
    have tup : s.heap.IsTuple a its.toArray := p
    have n3 : a ≠ it := let ⟨o, ho, c, _⟩ := tup; let ⟨o', ho', c', _⟩ := hit; pair_cls ho ho' (by rw [c, c']; decide)
    obtain ⟨f0, f1, f2, f3, f4, f5⟩ := hf it (by simp)
    have hl := rv.length
    subst hx
    have e : xs.length = its.toArray.size := by rw [List.size_toArray]; exact hl
    rw [e] at hit
    exact wpAny_pyNext_enum_endD (Draws.tuple (A := X.A.in1) (by simp [I.ok.hd hc]) it a n3 its.toArray) he ⟨hit, tup⟩ fun h' eb => ⟨rfl, I.turned (t' := s.toks) (fun b o hb q => eb b o hb q) f0 f1 f3 f4 f5⟩
  self := fun A i s Q E st h => let ⟨⟨_, he⟩, _⟩ := st; wpAny_pyIter_enum he h
def iEnumT (K : PySem.W.Frag) (ta : TA) : TI := fun σ H R => ta σ H fun vs H1 => ∃ a xs, vs = [.ref a] ∧ SqT K H1 a xs ∧ R (IteT K a) H1
theorem pi_enumT {X : Cx} {e : Expr} {ta : TA} {p pos tpos : Pos} {elts : List Expr} {kk : Nat} (hg : Gl X "enumerate") (hm : X.mg "enumerate" = none) (ha : PA X [e] ta) (hs : starEach [e] X.env = [(false, eval e X.env)] := by rfl) :
    PI X (.Tuple elts kk tpos) (.Call (.Name "enumerate" p) [e] [] pos) (iEnumT X.K ta) := by
  constructor
  intro pins s σ H R I h
  refine PyProof.Rows.Call_ (ld_blt I hg hm PyProof.Rows.boot_enumerate ?_)
  refine PyProof.Rows.callWith_type1 (thn (ha.run pos pins s σ H _ I h) ?_) hs rfl
  rintro us s1 ⟨vs, H1, I1, r1, a, xs, ex, hq, q⟩
  subst ex
  cases r1 with
  | cons r rr =>
    cases rr
    cases r
    obtain ⟨its, rv, p', hz⟩ := I1.tuple hq
    refine enum_call (begins_tuple a its.toArray) p' fun h' he hit hk => wpAny_pyIter_enum he ?_
    refine ⟨s1.heap.objs.size + 1, [s1.heap.objs.size + 1, s1.heap.objs.size], _, _, H1, rfl, I1.kept (t' := s1.toks) hk, turn_enumT a (s1.heap.objs.size + 1) s1.heap.objs.size, ⟨⟨.none, he⟩, ⟨_, hit, rfl, rfl⟩⟩, fun b hb => ?_, q⟩
    have hle : s1.heap.objs.size ≤ b := by
      rcases (show b = s1.heap.objs.size + 1 ∨ b = s1.heap.objs.size by simpa using hb) with rfl | rfl
      · exact Nat.le_add_right _ _
      · exact Nat.le_refl _
    exact I1.fpOk hle (I1.hok.fresh hle)
def enumT : List D → Sto → Option Items
  | [.tup ds], _ => some ⟨enumFrom 0 ds, []⟩
  | _, _ => none
section
variable {X : Cx} {W : WX} {a : Expr} {ms : MA} {p pos : Pos}
theorem i_enumT {elts : List Expr} {kk : Nat} {tpos : Pos} (hm : X.mg "enumerate" = none) (ha : PA X [a] (Am X.K W ms)) (hg : Gl X "enumerate" := by rfl) (hs : starEach [a] X.env = [(false, eval a X.env)] := by rfl) :
    PI X (.Tuple elts kk tpos) (.Call (.Name "enumerate" p) [a] [] pos) (Im X.K W (iArgs enumT ms)) :=
  PI_imp (pi_enumT hg hm ha hs) fun σ H Q h => Im_args h fun ρ1 H1 S1 vs ds it s1 v1 q k => by
    unfold enumT at q
    split at q
    · cases v1 with
      | cons v1 v2 =>
        cases v2
        cases q
        rename_i _ ds _
        obtain ⟨x, xs, rfl, h1, h2⟩ := tup_of v1
        refine ⟨x, xs, rfl, h1, k _ (fun _ h => nomatch h) fun ρ H S e s kk => ?_⟩
        obtain ⟨_, ys, e1, k1, k2⟩ := tup_of (v1.mono e)
        cases e1
        have hl := k2.length
        refine ⟨fun i hi => ?_, ⟨ys, k1, by show (enumFrom 0 ds).length = _; rw [enumFrom_len]; omega⟩, fun i v H' hi y => ?_⟩
        · have hi' : i < (enumFrom 0 ds).length := hi
          rw [enumFrom_len] at hi'
          exact ⟨ys, k1, by omega⟩
        · obtain ⟨T, x2, rfl, e2, rfl, e4⟩ := y
          obtain ⟨d2, g1, g2⟩ := k2.getV (e4 ys k1)
          refine ⟨_, by simpa using enumFrom_get 0 ds i d2 g1, Ext.fresh e2, s.laid e2, VR.newTup s e2 (.cons (.int _) (.cons g2 .nil))⟩
    · cases q
end
/-- xs.extend(ys), both lists -/
def dExtend : D → List D → Sto → R D
  | .loc l, [y], S => match S[l]?, listD y S with
    | some (.lst ds), some es => guardR (ds.length + es.length ≤ sizeLine) (.ok .non (S.set l (.lst (ds ++ es))))
    | _, _ => .bad
  | _, _, _ => .bad
theorem dExtend_ok {K : PySem.W.Frag} : MethS K dExtend rExtend := fun Wk ρ S H v d vs ds Q s r rs h => by
  unfold dExtend at h
  split at h
  · obtain ⟨y, rfl, ry⟩ := vrs1 rs
    split at h
    · rename_i es fs e1 e2
      obtain ⟨hz, h⟩ := guardR_post h
      cases r with
      | @loc a _ hl =>
        obtain ⟨xs, k1, k2⟩ := s.at hl e1
        obtain ⟨b, zs, rfl, k3, k4⟩ := listD_of s ry e2
        exact ⟨a, b, xs, zs, rfl, rfl, k1, k3, by rw [k2.length, k4.length]; exact hz, setLst s hl (k2.append k4) .non h⟩
    · exact h.elim
  · exact h.elim
section
variable {X : Cx} {W : WX} {o e : Expr} {m : ME} {ms : MA} {apos cpos : Pos}
theorem z_ext (ho : PE X o (Em X.K W m)) (ha : PA X [e] (Am X.K W ms)) (hbase : attributeBase o "extend" X.env (eval o X.env) = eval o X.env := by rfl)
    (hfew : ((backTo cpos (starEach [e] X.env)).all (fun x => !x.1) && (backToKw cpos (keywordEach [] X.env)).all (fun x => x.1.isSome) && decide ([e].length + ([] : List Keyword).length + (if ([] : List Keyword).isEmpty then 0 else 1) < 30)) = true := by rfl)
    (hline : (apos.endLine == cpos.line) = true := by rfl) (hs : starEach [e] X.env = (false, eval e X.env) :: starEach [] X.env := by rfl) (hplain : (backTo cpos (starEach [] X.env)).any (·.1) = false := by rfl) :
    PE X (.Call (.Attribute o "extend" apos) [e] [] cpos) (Em X.K W (mMeth "list" dExtend m ms)) :=
  z_meth PySem.F.plainAttrs_list PySem.F.slot_list_extend PySem.F.type_list_extend mt_extend dExtend_ok ho ha (pe_bm PySem.F.plainAttrs_list PySem.F.slot_list_extend PySem.F.type_list_extend mt_extend ho ha hbase hfew hline hs hplain)
end
end Z

/-! Hall: rows of days for hearings, one day each within its span, all apart, are there just where no span of days is crowded. -/
namespace Hall
abbrev Sp := Int × Int
def inB (f l : Int) (h : Sp) : Bool := decide (f ≤ h.1) && decide (h.2 ≤ l)
theorem inB_iff {f l : Int} {h : Sp} : inB f l h = true ↔ f ≤ h.1 ∧ h.2 ≤ l := by simp [inB]
def cnt (hs : List Sp) (f l : Int) : Nat := (hs.filter (inB f l)).length
inductive Fit : List Sp → List Int → Prop
  | nil : Fit [] []
  | cons {h : Sp} {d : Int} {hs : List Sp} {ds : List Int} : h.1 ≤ d → d ≤ h.2 → Fit hs ds → Fit (h :: hs) (d :: ds)
theorem Fit.split : ∀ {as bs : List Sp} {ds : List Int}, Fit (as ++ bs) ds → ∃ d1 d2, ds = d1 ++ d2 ∧ Fit as d1 ∧ Fit bs d2
  | [], bs, ds, h => ⟨[], ds, rfl, .nil, h⟩
  | a :: as, bs, _, .cons h1 h2 h3 => by
    obtain ⟨d1, d2, rfl, f1, f2⟩ := Fit.split h3
    exact ⟨_ :: d1, d2, rfl, .cons h1 h2 f1, f2⟩
theorem Fit.append : ∀ {as bs : List Sp} {d1 d2 : List Int}, Fit as d1 → Fit bs d2 → Fit (as ++ bs) (d1 ++ d2)
  | _, _, _, _, .nil, h => h
  | _, _, _, _, .cons h1 h2 h3, h => .cons h1 h2 (Fit.append h3 h)
theorem cnt_cons (h : Sp) (hs : List Sp) (f l : Int) : cnt (h :: hs) f l = (if inB f l h = true then 1 else 0) + cnt hs f l := by
  unfold cnt
  rw [List.filter_cons]
  split <;> simp <;> omega
theorem cnt_append (as bs : List Sp) (f l : Int) : cnt (as ++ bs) f l = cnt as f l + cnt bs f l := by
  unfold cnt
  rw [List.filter_append, List.length_append]
/-- days apart within a span are no more than the span's days -/
theorem few : ∀ (n : Nat) (ds : List Int) (f : Int), ds.Nodup → (∀ d ∈ ds, f ≤ d ∧ d < f + n) → ds.length ≤ n
  | 0, ds, f, _, h => by
    cases ds with
    | nil => simp
    | cons d r => have := h d (by simp); omega
  | n + 1, ds, f, hn, h => by
    have e := few n (ds.filter (fun d => decide (d ≠ f))) (f + 1) (hn.filter _) fun d hd => by
      have := List.mem_filter.mp hd
      have h1 := h d this.1
      have h2 : d ≠ f := by simpa using this.2
      omega
    have e2 : ds.length ≤ (ds.filter (fun d => decide (d ≠ f))).length + 1 := by
      clear e h
      induction ds with
      | nil => simp
      | cons d r ih =>
        have hc := List.nodup_cons.mp hn
        by_cases q : d = f
        · subst q
          have : r.filter (fun x => decide (x ≠ d)) = r := List.filter_eq_self.mpr fun x hx => by
            have : x ≠ d := fun e => hc.1 (e ▸ hx)
            simpa using this
          rw [List.filter_cons, this]
          simp
        · have := ih hc.2
          rw [List.filter_cons]
          simp [q]
          simp at this
          omega
    omega
theorem pick_days : ∀ {hs : List Sp} {ds : List Int} (f l : Int), Fit hs ds → ds.Nodup → ∃ es : List Int, es.Nodup ∧ es.length = cnt hs f l ∧ (∀ e ∈ es, e ∈ ds ∧ f ≤ e ∧ e ≤ l)
  | _, _, f, l, .nil, _ => ⟨[], List.nodup_nil, rfl, by simp⟩
  | _, _, f, l, .cons (h := h) (d := d) h1 h2 h3, hn => by
    have hc := List.nodup_cons.mp hn
    obtain ⟨es, e1, e2, e3⟩ := pick_days f l h3 hc.2
    rw [cnt_cons]
    by_cases q : inB f l h = true
    · refine ⟨d :: es, List.nodup_cons.mpr ⟨fun hd => hc.1 (e3 d hd).1, e1⟩, by simp [q, e2]; omega, fun e he => ?_⟩
      simp only [inB, Bool.and_eq_true, decide_eq_true_eq] at q
      rcases List.mem_cons.mp he with rfl | he
      · exact ⟨by simp, by omega, by omega⟩
      · exact ⟨by simp [(e3 e he).1], (e3 e he).2⟩
    · refine ⟨es, e1, by simp [q, e2], fun e he => ⟨by simp [(e3 e he).1], (e3 e he).2⟩⟩
theorem no_crowd_of_fit {hs : List Sp} {ds : List Int} (h : Fit hs ds) (hn : ds.Nodup) {f l : Int} (hl : f ≤ l) : (cnt hs f l : Int) ≤ l - f + 1 := by
  obtain ⟨es, e1, e2, e3⟩ := pick_days f l h hn
  have := few (l - f + 1).toNat es f e1 fun d hd => by have := e3 d hd; omega
  omega
/-- the earliest of a list, of those that begin first the one that ends first -/
theorem first_of : ∀ (hs : List Sp), hs ≠ [] → ∃ as c bs, hs = as ++ c :: bs ∧ ∀ h ∈ hs, c.1 < h.1 ∨ (c.1 = h.1 ∧ c.2 ≤ h.2)
  | [], h => absurd rfl h
  | [a], _ => ⟨[], a, [], rfl, fun h hh => by rw [List.mem_singleton.mp hh]; omega⟩
  | a :: b :: r, _ => by
    obtain ⟨as, c, bs, e, hc⟩ := first_of (b :: r) (by simp)
    by_cases q : c.1 < a.1 ∨ (c.1 = a.1 ∧ c.2 ≤ a.2)
    · refine ⟨a :: as, c, bs, by rw [e]; rfl, fun h hh => ?_⟩
      rcases List.mem_cons.mp hh with rfl | hh
      · exact q
      · exact hc h hh
    · refine ⟨[], a, b :: r, rfl, fun h hh => ?_⟩
      rcases List.mem_cons.mp hh with rfl | hh
      · omega
      · have := hc h hh; omega
/-- no earlier than f -/
def bump (f : Int) (h : Sp) : Sp := (max h.1 f, h.2)
theorem cnt_le {hs : List Sp} {g : Sp → Sp} {f l f' l' : Int} (h : ∀ x ∈ hs, inB f l (g x) = true → inB f' l' x = true) : cnt (hs.map g) f l ≤ cnt hs f' l' := by
  induction hs with
  | nil => simp [cnt]
  | cons x r ih =>
    rw [List.map_cons, cnt_cons, cnt_cons]
    have h1 := ih fun y hy => h y (by simp [hy])
    have h2 := h x (by simp)
    by_cases q : inB f l (g x) = true
    · simp [q, h2 q]; omega
    · simp [q]; omega
theorem hall : ∀ (n : Nat) (hs : List Sp), hs.length = n → (∀ h ∈ hs, h.1 ≤ h.2) → (∀ f l, f ≤ l → (cnt hs f l : Int) ≤ l - f + 1) → ∃ ds, Fit hs ds ∧ ds.Nodup
  | 0, hs, hn, _, _ => by
    cases hs with
    | nil => exact ⟨[], .nil, List.nodup_nil⟩
    | cons _ _ => simp at hn
  | n + 1, hs, hn, ho, hc => by
    obtain ⟨as, c, bs, rfl, hm⟩ := first_of hs (by rintro rfl; simp at hn)
    have hoc := ho c (by simp)
    have sub : ∀ x ∈ as ++ bs, x ∈ as ++ c :: bs := fun x hx => by
      rcases List.mem_append.mp hx with h | h <;> simp [h]
    have total : ∀ f l, cnt (as ++ c :: bs) f l = (if inB f l c = true then 1 else 0) + cnt (as ++ bs) f l := fun f l => by
      rw [cnt_append, cnt_append, cnt_cons]; omega
    have late : ∀ x ∈ as ++ bs, c.1 < x.2 := fun x hx => by
      have h1 := ho x (sub x hx)
      have h2 := hm x (sub x hx)
      by_cases q2 : c.1 < x.2
      · exact q2
      · exfalso
        have e1 : x.1 = c.1 := by omega
        have e2 : x.2 = c.1 := by omega
        have e3 : c.2 = c.1 := by omega
        have k := hc c.1 c.1 (by omega)
        rw [total] at k
        have ic : inB c.1 c.1 c = true := by simp [inB, e3]
        have ix : inB c.1 c.1 x = true := by simp [inB, e1, e2]
        have pos : 1 ≤ cnt (as ++ bs) c.1 c.1 := by
          unfold cnt
          exact List.length_pos_of_mem (List.mem_filter.mpr ⟨hx, ix⟩)
        simp [ic] at k
        omega
    obtain ⟨ds, hf, hnd⟩ := hall n ((as ++ bs).map (bump (c.1 + 1))) (by simp at hn ⊢; omega)
      (fun h hh => by
        obtain ⟨x, hx, rfl⟩ := List.mem_map.mp hh
        have h1 := ho x (sub x hx)
        have h2 := hm x (sub x hx)
        show max x.1 (c.1 + 1) ≤ x.2
        have := late x hx
        omega)
      (fun f l hl => by
        by_cases q : c.1 + 1 < f
        · have k := hc f l hl
          rw [total] at k
          have := cnt_le (hs := as ++ bs) (g := bump (c.1 + 1)) (f := f) (l := l) (f' := f) (l' := l) fun x hx hi => by
            rw [inB_iff] at hi ⊢
            have hi1 : f ≤ max x.1 (c.1 + 1) := hi.1
            have hi2 : x.2 ≤ l := hi.2
            omega
          omega
        · by_cases ql : c.1 + 1 ≤ l
          · by_cases qc : c.2 ≤ l
            · have k := hc c.1 l (by omega)
              rw [total] at k
              have ic : inB c.1 l c = true := by simp [inB, qc]
              have := cnt_le (hs := as ++ bs) (g := bump (c.1 + 1)) (f := f) (l := l) (f' := c.1) (l' := l) fun x hx hi => by
                have := hm x (sub x hx)
                rw [inB_iff] at hi ⊢
                have hi1 : f ≤ max x.1 (c.1 + 1) := hi.1
                have hi2 : x.2 ≤ l := hi.2
                omega
              simp [ic] at k
              omega
            · have k := hc (c.1 + 1) l ql
              rw [total] at k
              have := cnt_le (hs := as ++ bs) (g := bump (c.1 + 1)) (f := f) (l := l) (f' := c.1 + 1) (l' := l) fun x hx hi => by
                have := hm x (sub x hx)
                rw [inB_iff] at hi ⊢
                have hi1 : f ≤ max x.1 (c.1 + 1) := hi.1
                have hi2 : x.2 ≤ l := hi.2
                omega
              omega
          · have : cnt ((as ++ bs).map (bump (c.1 + 1))) f l ≤ cnt ([] : List Sp) f l := by
              unfold cnt
              rw [List.filter_eq_nil_iff.mpr]
              · simp
              · intro y hy
                obtain ⟨x, hx, rfl⟩ := List.mem_map.mp hy
                have h1 := ho x (sub x hx)
                have h2 := late x hx
                intro hi
                rw [inB_iff] at hi
                have hi1 : f ≤ max x.1 (c.1 + 1) := hi.1
                have hi2 : x.2 ≤ l := hi.2
                omega
            have z : cnt ([] : List Sp) f l = 0 := rfl
            omega)
    obtain ⟨d1, d2, e, f1, f2⟩ := Fit.split (as := as.map (bump (c.1 + 1))) (by rw [List.map_append] at hf; exact hf)
    subst e
    have un : ∀ {xs : List Sp} {ys : List Int}, Fit (xs.map (bump (c.1 + 1))) ys → Fit xs ys ∧ ∀ y ∈ ys, c.1 < y := by
      intro xs
      induction xs with
      | nil => intro ys h; cases h; exact ⟨.nil, by simp⟩
      | cons x r ih =>
        intro ys h
        cases h with
        | cons h1 h2 h3 =>
          obtain ⟨i1, i2⟩ := ih h3
          simp only [bump] at h1 h2
          refine ⟨.cons (by omega) h2 i1, fun y hy => ?_⟩
          rcases List.mem_cons.mp hy with rfl | hy
          · omega
          · exact i2 y hy
    obtain ⟨g1, g2⟩ := un f1
    obtain ⟨g3, g4⟩ := un f2
    refine ⟨d1 ++ c.1 :: d2, g1.append (.cons (Int.le_refl _) hoc g3), ?_⟩
    rw [List.nodup_append] at hnd ⊢
    refine ⟨hnd.1, List.nodup_cons.mpr ⟨fun h => by have := g4 _ h; omega, hnd.2.1⟩, fun a ha b hb => ?_⟩
    rcases List.mem_cons.mp hb with rfl | hb
    · have := g2 a ha; omega
    · exact hnd.2.2 a ha b hb
/-! all rows -/
def irng (f l : Int) : List Int := (List.range (l + 1 - f).toNat).map fun (k : Nat) => f + (k : Int)
theorem irng_mem {f l d : Int} : d ∈ irng f l ↔ f ≤ d ∧ d ≤ l := by
  unfold irng
  rw [List.mem_map]
  constructor
  · rintro ⟨k, hk, rfl⟩
    have := List.mem_range.mp hk
    omega
  · intro h
    exact ⟨(d - f).toNat, List.mem_range.mpr (by omega), by omega⟩
def ext (h : Sp) (r : List Int) : List (List Int) := ((irng h.1 h.2).filter fun d => !(r.contains d)).map fun d => r ++ [d]
def step (R : List (List Int)) (h : Sp) : List (List Int) := R.flatMap (ext h)
def ords (hs : List Sp) : List (List Int) := hs.foldl step [[]]
theorem ext_mem {h : Sp} {r x : List Int} : x ∈ ext h r ↔ ∃ d, x = r ++ [d] ∧ h.1 ≤ d ∧ d ≤ h.2 ∧ d ∉ r := by
  unfold ext
  rw [List.mem_map]
  constructor
  · rintro ⟨d, hd, rfl⟩
    have h1 := List.mem_filter.mp hd
    have h2 := irng_mem.mp h1.1
    exact ⟨d, rfl, h2.1, h2.2, by simpa using h1.2⟩
  · rintro ⟨d, rfl, h1, h2, h3⟩
    exact ⟨d, List.mem_filter.mpr ⟨irng_mem.mpr ⟨h1, h2⟩, by simpa using h3⟩, rfl⟩
theorem mem_fold : ∀ (hs : List Sp) (R : List (List Int)) (x : List Int), x ∈ hs.foldl step R ↔ ∃ r ∈ R, ∃ ds, x = r ++ ds ∧ Fit hs ds ∧ ds.Nodup ∧ ∀ d ∈ ds, d ∉ r
  | [], R, x => by
    constructor
    · intro h
      exact ⟨x, h, [], by simp, .nil, List.nodup_nil, by simp⟩
    · rintro ⟨r, hr, ds, rfl, h, _⟩
      cases h
      simpa using hr
  | h :: hs, R, x => by
    rw [List.foldl_cons, mem_fold hs]
    constructor
    · rintro ⟨r1, hr1, ds, rfl, f, nd, ap⟩
      obtain ⟨r, hr, he⟩ := List.mem_flatMap.mp hr1
      obtain ⟨d, rfl, h1, h2, h3⟩ := ext_mem.mp he
      refine ⟨r, hr, d :: ds, by simp, .cons h1 h2 f, List.nodup_cons.mpr ⟨fun q => ap d q (by simp), nd⟩, fun e he => ?_⟩
      rcases List.mem_cons.mp he with rfl | he
      · exact h3
      · exact fun q => ap e he (by simp [q])
    · rintro ⟨r, hr, ds, rfl, f, nd, ap⟩
      cases f with
      | @cons _ d _ ds h1 h2 f =>
        have hc := List.nodup_cons.mp nd
        refine ⟨r ++ [d], List.mem_flatMap.mpr ⟨r, hr, ext_mem.mpr ⟨d, rfl, h1, h2, ap d (by simp)⟩⟩, ds, by simp, f, hc.2, fun e he => ?_⟩
        simp only [List.mem_append, List.mem_singleton, not_or]
        exact ⟨ap e (by simp [he]), fun q => hc.1 (q ▸ he)⟩
theorem ords_some {hs : List Sp} : ords hs ≠ [] ↔ ∃ ds, Fit hs ds ∧ ds.Nodup := by
  constructor
  · intro h
    obtain ⟨x, hx⟩ := List.exists_mem_of_ne_nil _ h
    obtain ⟨r, hr, ds, _, f, nd, _⟩ := (mem_fold hs [[]] x).mp hx
    exact ⟨ds, f, nd⟩
  · rintro ⟨ds, f, nd⟩ e
    have := (mem_fold hs [[]] ds).mpr ⟨[], by simp, ds, rfl, f, nd, by simp⟩
    unfold ords at e
    rw [e] at this
    cases this
theorem ext_len {h : Sp} {r : List Int} (hw : h.2 < h.1 + 5) : (ext h r).length ≤ 5 := by
  unfold ext
  rw [List.length_map]
  refine Nat.le_trans (List.length_filter_le _ _) ?_
  unfold irng
  rw [List.length_map, List.length_range]
  omega
theorem step_len {h : Sp} (hw : h.2 < h.1 + 5) : ∀ R : List (List Int), (step R h).length ≤ 5 * R.length
  | [] => by simp [step]
  | r :: R => by
    have h1 := step_len hw R
    have h2 := ext_len (r := r) hw
    unfold step at h1 ⊢
    rw [List.flatMap_cons, List.length_append, List.length_cons]
    omega
/-- no crowd just where there is a row -/
theorem crowd_iff {hs : List Sp} (ho : ∀ h ∈ hs, 0 ≤ h.1 ∧ h.1 ≤ h.2 ∧ h.2 ≤ 60) : (∀ f l : Int, 0 ≤ f → f ≤ l → l ≤ 60 → (cnt hs f l : Int) ≤ l - f + 1) ↔ ords hs ≠ [] := by
  rw [ords_some]
  constructor
  · intro h
    refine hall _ hs rfl (fun x hx => (ho x hx).2.1) fun f l hl => ?_
    have le : cnt hs f l ≤ cnt hs (max f 0) (min l 60) := by
      have := cnt_le (hs := hs) (g := id) (f := f) (l := l) (f' := max f 0) (l' := min l 60) fun x hx hi => by
        have := ho x hx
        rw [inB_iff] at hi ⊢
        have h1 : f ≤ x.1 := hi.1
        have h2 : x.2 ≤ l := hi.2
        omega
      simpa using this
    by_cases q : max f 0 ≤ min l 60
    · have := h (max f 0) (min l 60) (by omega) q (by omega)
      omega
    · have z : cnt hs f l = 0 := by
        unfold cnt
        rw [List.filter_eq_nil_iff.mpr]
        · rfl
        · intro x hx hi
          have := ho x hx
          rw [inB_iff] at hi
          omega
      rw [z]; omega
  · rintro ⟨ds, f, nd⟩ a b _ hab _
    exact no_crowd_of_fit f nd hab
end Hall

/-! what each def does -/
namespace Lk74
open PySem L2 Z
noncomputable def m_is_within : List D → Sto → R D := runD 3 3 (sRet (mAndV (mCall dIsa (aCons (mVar 0) (aCons (mC (.ob (.ty "int"))) aNil))) (mAndV (mNotV (mCall dIsa (aCons (mVar 0) (aCons (mC (.ob (.ty "bool"))) aNil)))) (mChain dLe dLe (mVar 1) (mVar 0) (mVar 2)))))
noncomputable def m_is_upto : List D → Sto → R D := runD 2 2 (sRet (mCall m_is_within (aCons (mVar 0) (aCons (mC (.int 0)) (aCons (mBin dSub (mVar 1) (mC (.int 1))) aNil)))))
noncomputable def m_are_persons : List D → Sto → R D := runD 1 3 (sSeq (sIf (mOr (mNot (mT (mCall dIsa (aCons (mVar 0) (aCons (mC (.ob (.ty "tuple"))) aNil))))) (mNot (mT (mCall dAll (aCons (mComp (iSeq (mVar 0)) (.nm 1) [1] tYesM (mCall m_is_upto (aCons (mVar 1) (aCons (mC (.int 6)) aNil)))) aNil))))) (sRet (mC (.bl false))) sNil)
  (sRet (mCall dAll (aCons (mComp (iArgs zipOf (aCons (mVar 0) (aCons (mSl (mVar 0) (some (mC (.int 1))) none) aNil))) (.tp [1, 2]) [1, 2] tYesM (mBin dLt (mVar 1) (mVar 2))) aNil))))
noncomputable def m_is_hearing : List D → Sto → R D := runD 1 1 (sSeq (sIf (mOr (mNot (mT (mCall dIsa (aCons (mVar 0) (aCons (mC (.ob (.ty "tuple"))) aNil))))) (mOr (mB (mBin dNe (mCall dLen (aCons (mVar 0) aNil)) (mC (.int 3)))) (mOr (mNot (mT (mCall m_is_upto (aCons (mBin dIx (mVar 0) (mC (.int 0))) (aCons (mC (.int 61)) aNil))))) (mNot (mT (mCall m_is_upto (aCons (mBin dIx (mVar 0) (mC (.int 1))) (aCons (mC (.int 61)) aNil)))))))) (sRet (mC (.bl false))) sNil)
  (sRet (mAndV (mChain dLe dLe (mBin dIx (mVar 0) (mC (.int 0))) (mBin dIx (mVar 0) (mC (.int 1))) (mBin dAdd (mBin dIx (mVar 0) (mC (.int 0))) (mC (.int 9)))) (mCall m_are_persons (aCons (mBin dIx (mVar 0) (mC (.int 2))) aNil)))))
noncomputable def m_is_docket : List D → Sto → R D := runD 1 2 (sSeq (sIf (mOr (mNot (mT (mCall dIsa (aCons (mVar 0) (aCons (mC (.ob (.ty "tuple"))) aNil))))) (mNot (mB (mChain dLe dLe (mC (.int 1)) (mCall dLen (aCons (mVar 0) aNil)) (mC (.int 6)))))) (sRet (mC (.bl false))) sNil)
  (sRet (mCall dAll (aCons (mComp (iSeq (mVar 0)) (.nm 1) [1] tYesM (mCall m_is_hearing (aCons (mVar 1) aNil))) aNil))))
noncomputable def m_need_docket : List D → Sto → R D := runD 1 1 (sIf (mNot (mT (mCall m_is_docket (aCons (mVar 0) aNil)))) sBad sNil)
noncomputable def m_within : List D → Sto → R D := runD 3 5 (sRet (mCall dTuple (aCons (mComp (iArgs enumT (aCons (mVar 0) aNil)) (.tp [3, 4]) [3, 4] (mAnd (mB (mBin dGe (mBin dIx (mVar 4) (mC (.int 0))) (mVar 1))) (mB (mBin dLe (mBin dIx (mVar 4) (mC (.int 1))) (mVar 2)))) (mVar 3)) aNil)))
noncomputable def m_crowd_holds : List D → Sto → R D := runD 2 6 (sSeq (sExpr (mCall m_need_docket (aCons (mVar 0) aNil)))
  (sSeq (sIf (mOr (mNot (mT (mCall dIsa (aCons (mVar 1) (aCons (mC (.ob (.ty "tuple"))) aNil))))) (mOr (mB (mBin dNe (mCall dLen (aCons (mVar 1) aNil)) (mC (.int 3)))) (mOr (mNot (mT (mCall m_is_upto (aCons (mBin dIx (mVar 1) (mC (.int 0))) (aCons (mC (.int 61)) aNil))))) (mNot (mT (mCall m_is_upto (aCons (mBin dIx (mVar 1) (mC (.int 1))) (aCons (mC (.int 61)) aNil)))))))) (sRet (mC (.bl false))) sNil)
  (sSeq (sTup [2, 3, 4] (mVar 1))
  (sSeq (sIf (mOr (mNot (mT (mCall dIsa (aCons (mVar 4) (aCons (mC (.ob (.ty "tuple"))) aNil))))) (mNot (mT (mCall dAll (aCons (mComp (iSeq (mVar 4)) (.nm 5) [5] tYesM (mCall m_is_upto (aCons (mVar 5) (aCons (mCall dLen (aCons (mVar 0) aNil)) aNil)))) aNil))))) (sRet (mC (.bl false))) sNil)
  (sRet (mAndV (mBin dLe (mVar 2) (mVar 3)) (mAndV (mBin dEq (mVar 4) (mCall m_within (aCons (mVar 0) (aCons (mVar 2) (aCons (mVar 3) aNil))))) (mBin dGt (mCall dLen (aCons (mVar 4) aNil)) (mBin dAdd (mBin dSub (mVar 3) (mVar 2)) (mC (.int 1)))))))))))
noncomputable def m_least_crowd : List D → Sto → R D := runD 1 4 (sSeq (sFor (iArgs range1 (aCons (mC (.int 61)) aNil)) (.nm 1) (sFor (iArgs range2 (aCons (mVar 1) (aCons (mC (.int 61)) aNil))) (.nm 2) (sSeq (sAsg 3 (mCall m_within (aCons (mVar 0) (aCons (mVar 1) (aCons (mVar 2) aNil)))))
  (sIf (mB (mBin dGt (mCall dLen (aCons (mVar 3) aNil)) (mBin dAdd (mBin dSub (mVar 2) (mVar 1)) (mC (.int 1))))) (sRet (mTup (aCons (mVar 1) (aCons (mVar 2) (aCons (mVar 3) aNil))))) sNil))))
  (sRet (mC .non)))
noncomputable def m_crowd_of : List D → Sto → R D := runD 1 1 (sSeq (sExpr (mCall m_need_docket (aCons (mVar 0) aNil)))
  (sRet (mCall m_least_crowd (aCons (mVar 0) aNil))))
noncomputable def m_law_cell : List D → Sto → R D := runD 2 2 (sSeq (sIf (mB (mBin dLt (mVar 1) (mCall dLen (aCons (mVar 0) aNil)))) (sRet (mBin dIx (mVar 0) (mVar 1))) sNil)
  (sRet (mC (.int 0))))
noncomputable def m_law_pen : List D → Sto → R D := runD 1 2 (sSeq (sAsg 1 (mCall dMax2 (aCons (mVar 0) (aCons (mBin dSub (mC (.int 0)) (mVar 0)) aNil))))
  (sRet (mLstN (aCons (mVar 1) (aCons (mCall dInt (aCons (mBin dGe (mVar 1) (mBin dPow (mC (.int 10)) (mC (.int 18)))) aNil)) aNil)))))
noncomputable def m_law_draw : List D → Sto → R D := runD 2 5 (sSeq (sIf (mB (mBin dEq (mBin dIx (mVar 0) (mC (.int 1))) (mC (.int 1)))) (sSeq (sTup [3, 4] (mCall dDivmod (aCons (mBin dIx (mVar 0) (mC (.int 0))) (aCons (mVar 1) aNil))))
  (sSeq (sSub (mVar 0) (mC (.int 0)) (mVar 3))
  (sRet (mVar 4)))) sNil)
  (sSeq (sAsg 2 (mBin dMod (mBin dMul (mBin dAdd (mBin dMod (mBin dIx (mVar 0) (mC (.int 0))) (mC (.int 2147483647))) (mC (.int 40503))) (mC (.int 69621))) (mC (.int 2147483629))))
  (sSeq (sAsg 2 (mBin dMod (mBin dAdd (mBin dMul (mVar 2) (mVar 2)) (mC (.int 7817))) (mC (.int 2147483587))))
  (sSeq (sSub (mVar 0) (mC (.int 0)) (mBin dMod (mBin dAdd (mBin dMul (mVar 2) (mC (.int 48271))) (mC (.int 11))) (mC (.int 2147483629))))
  (sRet (mBin dMod (mBin dFdiv (mBin dIx (mVar 0) (mC (.int 0))) (mC (.int 32))) (mVar 1)))))))
noncomputable def m_law_below : List D → Sto → R D := runD 2 2 (sRet (mAndV (mCall dIsa (aCons (mVar 0) (aCons (mC (.ob (.ty "int"))) aNil))) (mAndV (mNotV (mCall dIsa (aCons (mVar 0) (aCons (mC (.ob (.ty "bool"))) aNil)))) (mChain dLe dLt (mC (.int 0)) (mVar 0) (mVar 1)))))
noncomputable def m_law_persons : List D → Sto → R D := runD 1 2 (sRet (mCall dTuple (aCons (mUn dSortSet (mComp (iArgs range1 (aCons (mCall m_law_draw (aCons (mVar 0) (aCons (mC (.int 4)) aNil))) aNil)) (.nm 1) [1] tYesM (mCall m_law_draw (aCons (mVar 0) (aCons (mBin dIx (mLst (aCons (mC (.int 3)) (aCons (mC (.int 6)) aNil))) (mCall m_law_draw (aCons (mVar 0) (aCons (mC (.int 2)) aNil)))) aNil))))) aNil)))
noncomputable def m_law_docket : List D → Sto → R D := runD 3 8 (sSeq (sPar [4, 5, 6] (aCons (mCall m_law_draw (aCons (mVar 0) (aCons (mC (.int 50)) aNil))) (aCons (mBin dAdd (mC (.int 1)) (mCall m_law_draw (aCons (mVar 0) (aCons (mC (.int 5)) aNil)))) (aCons (mLstN aNil) aNil))))
  (sSeq (sFor (iArgs range1 (aCons (mVar 1) aNil)) (.nm 3) (sSeq (sAsg 7 (mBin dAdd (mVar 4) (mCall m_law_draw (aCons (mVar 0) (aCons (mVar 5) aNil)))))
  (sExpr (mMeth "list" dAppend (mVar 6) (aCons (mTup (aCons (mVar 7) (aCons (mCall dMin2 (aCons (mC (.int 60)) (aCons (mBin dAdd (mVar 7) (mCall m_law_draw (aCons (mVar 0) (aCons (mVar 2) aNil)))) aNil))) (aCons (mCall m_law_persons (aCons (mVar 0) aNil)) aNil)))) aNil)))))
  (sRet (mCall dTuple (aCons (mVar 6) aNil)))))
noncomputable def m_law_orders : List D → Sto → R D := runD 1 8 (sSeq (sAsg 1 (mLst (aCons (mTup aNil) aNil)))
  (sSeq (sFor (iSeq (mVar 0)) (.tp [2, 3, 4]) (sSeq (sAsg 5 (mLstN aNil))
  (sSeq (sFor (iSeq (mVar 1)) (.nm 6) (sExpr (mMeth "list" dExtend (mVar 5) (aCons (mComp (iArgs range2 (aCons (mVar 2) (aCons (mBin dAdd (mVar 3) (mC (.int 1))) aNil))) (.nm 7) [7] (mB (mBin dNotInL (mVar 7) (mVar 6))) (mBin dAdd (mVar 6) (mTup (aCons (mVar 7) aNil)))) aNil))))
  (sAsg 1 (mVar 5)))))
  (sRet (mVar 1))))
noncomputable def m_law_inside : List D → Sto → R D := runD 3 5 (sRet (mCall dTuple (aCons (mComp (iArgs enumT (aCons (mVar 0) aNil)) (.tp [3, 4]) [3, 4] (mAnd (mB (mBin dLe (mVar 1) (mBin dIx (mVar 4) (mC (.int 0))))) (mB (mBin dLe (mBin dIx (mVar 4) (mC (.int 1))) (mVar 2)))) (mVar 3)) aNil)))
noncomputable def m_law_first_crowd : List D → Sto → R D := runD 1 3 (sSeq (sFor (iArgs range1 (aCons (mC (.int 61)) aNil)) (.nm 1) (sFor (iArgs range2 (aCons (mVar 1) (aCons (mC (.int 61)) aNil))) (.nm 2) (sIf (mB (mBin dGt (mCall dLen (aCons (mCall m_law_inside (aCons (mVar 0) (aCons (mVar 1) (aCons (mVar 2) aNil)))) aNil)) (mBin dAdd (mBin dSub (mVar 2) (mVar 1)) (mC (.int 1))))) (sRet (mTup (aCons (mVar 1) (aCons (mVar 2) (aCons (mCall m_law_inside (aCons (mVar 0) (aCons (mVar 1) (aCons (mVar 2) aNil)))) aNil))))) sNil)))
  (sRet (mC .non)))
noncomputable def m_law_is_crowd : List D → Sto → R D := runD 2 6 (sSeq (sIf (mOr (mNot (mT (mCall dIsa (aCons (mVar 1) (aCons (mC (.ob (.ty "tuple"))) aNil))))) (mOr (mB (mBin dNe (mCall dLen (aCons (mVar 1) aNil)) (mC (.int 3)))) (mOr (mNot (mT (mCall m_law_below (aCons (mBin dIx (mVar 1) (mC (.int 0))) (aCons (mC (.int 61)) aNil))))) (mNot (mT (mCall m_law_below (aCons (mBin dIx (mVar 1) (mC (.int 1))) (aCons (mC (.int 61)) aNil)))))))) (sRet (mC (.bl false))) sNil)
  (sSeq (sTup [2, 3, 4] (mVar 1))
  (sSeq (sIf (mOr (mNot (mT (mCall dIsa (aCons (mVar 4) (aCons (mC (.ob (.ty "tuple"))) aNil))))) (mOr (mNot (mT (mCall dAll (aCons (mComp (iSeq (mVar 4)) (.nm 5) [5] tYesM (mCall m_law_below (aCons (mVar 5) (aCons (mC (.int 6)) aNil)))) aNil)))) (mB (mBin dGt (mVar 2) (mVar 3))))) (sRet (mC (.bl false))) sNil)
  (sRet (mAndV (mBin dEq (mVar 4) (mCall m_law_inside (aCons (mVar 0) (aCons (mVar 2) (aCons (mVar 3) aNil))))) (mBin dGt (mCall dLen (aCons (mVar 4) aNil)) (mBin dAdd (mBin dSub (mVar 3) (mVar 2)) (mC (.int 1)))))))))
noncomputable def m_law_things : List D → Sto → R D := runD 2 11 (sSeq (sPar [3, 4] (aCons (mBin dIx (mBin dIx (mVar 1) (mC (.int 0))) (mC (.int 0))) (aCons (mLst (aCons (mC .non) (aCons mDct0 (aCons (mTup aNil) (aCons (mC (.str "crowd")) (aCons (mTup (aCons (mC (.int 0)) (aCons (mC (.int 60)) aNil))) (aCons (mTup (aCons (mC (.int 0)) (aCons (mC (.int 60)) (aCons (mC .non) aNil)))) (aCons (mTup (aCons (mC (.int 60)) (aCons (mC (.int 0)) (aCons (mTup aNil) aNil)))) (aCons (mTup (aCons (mC (.bl true)) (aCons (mC (.int 60)) (aCons (mTup aNil) aNil)))) aNil))))))))) aNil)))
  (sSeq (sFor (iArgs range1 (aCons (mC (.int 12)) aNil)) (.nm 2) (sSeq (sAsg 5 (mCall dMax2 (aCons (mC (.int 0)) (aCons (mBin dAdd (mBin dSub (mVar 3) (mC (.int 2))) (mCall m_law_draw (aCons (mVar 0) (aCons (mC (.int 7)) aNil)))) aNil))))
  (sSeq (sAsg 6 (mCall dMin2 (aCons (mC (.int 60)) (aCons (mBin dAdd (mVar 5) (mCall m_law_draw (aCons (mVar 0) (aCons (mC (.int 5)) aNil)))) aNil))))
  (sSeq (sPar [8, 9] (aCons (mCall m_law_inside (aCons (mVar 1) (aCons (mVar 5) (aCons (mVar 6) aNil)))) (aCons (mCall m_law_draw (aCons (mVar 0) (aCons (mC (.int 6)) aNil))) aNil)))
  (sSeq (sAsg 7 (mLstN (aCons (mVar 8) (aCons (mSl (mVar 8) (some (mC (.int 1))) none) (aCons (mStep (mVar 8) (-1)) (aCons (mCall dList (aCons (mVar 8) aNil)) (aCons (mBin dAdd (mVar 8) (mTup (aCons (mVar 9) aNil))) (aCons (mCall dTuple (aCons (mUn dSortSet (mBin dAdd (mVar 8) (mTup (aCons (mVar 9) aNil)))) aNil)) (aCons (mTup aNil) aNil)))))))))
  (sSeq (sExpr (mMeth "list" dAppend (mVar 7) (aCons (mTup (aCons (mCall dLen (aCons (mVar 1) aNil)) aNil)) aNil)))
  (sAsg 4 (mBin dAdd (mBin dAdd (mVar 4) (mComp (iSeq (mVar 7)) (.nm 10) [10] tYesM (mTup (aCons (mVar 5) (aCons (mVar 6) (aCons (mVar 10) aNil)))))) (mLst (aCons (mTup (aCons (mVar 6) (aCons (mVar 5) (aCons (mVar 8) aNil)))) (aCons (mLst (aCons (mVar 5) (aCons (mVar 6) (aCons (mVar 8) aNil)))) (aCons (mTup (aCons (mVar 5) (aCons (mVar 6) aNil))) aNil))))))))))))
  (sRet (mVar 4))))
noncomputable def m_law : List D → Sto → R D := runD 1 7 (sSeq (sFor (iSeq (mBin dAdd (mLst (aCons (mCall m_law_cell (aCons (mVar 0) (aCons (mC (.int 0)) aNil))) aNil)) (mSl (mVar 0) (some (mC (.int 1))) (some (mC (.int 2)))))) (.nm 1) (sSeq (sAsg 2 (mCall m_law_pen (aCons (mVar 1) aNil)))
  (sFor (iArgs range1 (aCons (mC (.int 6)) aNil)) (.nm 3) (sSeq (sAsg 4 (mCall m_law_docket (aCons (mVar 2) (aCons (mBin dAdd (mC (.int 1)) (mVar 3)) (aCons (mBin dIx (mLst (aCons (mC (.int 1)) (aCons (mC (.int 2)) (aCons (mC (.int 3)) (aCons (mC (.int 5)) aNil))))) (mCall m_law_draw (aCons (mVar 2) (aCons (mC (.int 4)) aNil)))) aNil)))))
  (sSeq (sAsg 5 (mCall m_law_first_crowd (aCons (mVar 4) aNil)))
  (sSeq (sIf (mOr (mB (mBin dNe (mCall dRepr (aCons (mCall m_crowd_of (aCons (mVar 4) aNil)) aNil)) (mCall dRepr (aCons (mVar 5) aNil)))) (mAnd (mB (mBin dLt (mCall dLen (aCons (mVar 4) aNil)) (mC (.int 5)))) (mB (mBin dNe (mBin (dIsN false) (mVar 5) (mC .non)) (mBin dNe (mCall m_law_orders (aCons (mVar 4) aNil)) (mLst aNil)))))) (sRet (mC (.bl false))) sNil)
  (sFor (iSeq (mBin dAdd (mCall m_law_things (aCons (mVar 2) (aCons (mVar 4) aNil))) (mLst (aCons (mVar 5) aNil)))) (.nm 6) (sIf (mB (mBin dNe (mCall dRepr (aCons (mCall m_crowd_holds (aCons (mVar 4) (aCons (mVar 6) aNil))) aNil)) (mCall dRepr (aCons (mCall m_law_is_crowd (aCons (mVar 4) (aCons (mVar 6) aNil))) aNil)))) (sRet (mC (.bl false))) sNil))))))))
  (sRet (mC (.bl true))))
end Lk74

/-! each def keeps it -/
namespace Lk74
open PySem L2 Z
def top (i : Nat) : Stmt := PySem.Challenge.pw_ridingbench_k74_crowds.main.body.getD i (.Pass ⟨0, 0, 0, 0⟩)
/-- what stands behind the top -/
structure Tx (K : PySem.W.Frag) (mg : Str → Option Value) where
  a_is_within : Addr
  fd_is_within : FuncData
  F_is_within : Fun K "is_within" "is_within" (top 6) a_is_within fd_is_within
  g_is_within : mg "is_within" = some (.ref a_is_within)
  b_is_within : Binds K fd_is_within ["thing", "least", "most"] []
  a_is_upto : Addr
  fd_is_upto : FuncData
  F_is_upto : Fun K "is_upto" "is_upto" (top 7) a_is_upto fd_is_upto
  g_is_upto : mg "is_upto" = some (.ref a_is_upto)
  b_is_upto : Binds K fd_is_upto ["thing", "many"] []
  a_are_persons : Addr
  fd_are_persons : FuncData
  F_are_persons : Fun K "are_persons" "are_persons" (top 11) a_are_persons fd_are_persons
  g_are_persons : mg "are_persons" = some (.ref a_are_persons)
  b_are_persons : Binds K fd_are_persons ["thing"] []
  a_is_hearing : Addr
  fd_is_hearing : FuncData
  F_is_hearing : Fun K "is_hearing" "is_hearing" (top 12) a_is_hearing fd_is_hearing
  g_is_hearing : mg "is_hearing" = some (.ref a_is_hearing)
  b_is_hearing : Binds K fd_is_hearing ["thing"] []
  a_is_docket : Addr
  fd_is_docket : FuncData
  F_is_docket : Fun K "is_docket" "is_docket" (top 13) a_is_docket fd_is_docket
  g_is_docket : mg "is_docket" = some (.ref a_is_docket)
  b_is_docket : Binds K fd_is_docket ["thing"] []
  a_need_docket : Addr
  fd_need_docket : FuncData
  F_need_docket : Fun K "need_docket" "need_docket" (top 14) a_need_docket fd_need_docket
  g_need_docket : mg "need_docket" = some (.ref a_need_docket)
  b_need_docket : Binds K fd_need_docket ["thing"] []
  a_within : Addr
  fd_within : FuncData
  F_within : Fun K "within" "within" (top 15) a_within fd_within
  g_within : mg "within" = some (.ref a_within)
  b_within : Binds K fd_within ["docket", "first", "last"] []
  a_crowd_holds : Addr
  fd_crowd_holds : FuncData
  F_crowd_holds : Fun K "crowd_holds" "crowd_holds" (top 16) a_crowd_holds fd_crowd_holds
  g_crowd_holds : mg "crowd_holds" = some (.ref a_crowd_holds)
  b_crowd_holds : Binds K fd_crowd_holds ["docket", "thing"] []
  a_least_crowd : Addr
  fd_least_crowd : FuncData
  F_least_crowd : Fun K "least_crowd" "least_crowd" (top 17) a_least_crowd fd_least_crowd
  g_least_crowd : mg "least_crowd" = some (.ref a_least_crowd)
  b_least_crowd : Binds K fd_least_crowd ["docket"] []
  a_crowd_of : Addr
  fd_crowd_of : FuncData
  F_crowd_of : Fun K "crowd_of" "crowd_of" (top 18) a_crowd_of fd_crowd_of
  g_crowd_of : mg "crowd_of" = some (.ref a_crowd_of)
  b_crowd_of : Binds K fd_crowd_of ["docket"] []
  a_law_cell : Addr
  fd_law_cell : FuncData
  F_law_cell : Fun K "_law_cell" "_law_cell" (top 20) a_law_cell fd_law_cell
  g_law_cell : mg "_law_cell" = some (.ref a_law_cell)
  b_law_cell : Binds K fd_law_cell ["_law_script", "_law_k"] []
  a_law_pen : Addr
  fd_law_pen : FuncData
  F_law_pen : Fun K "_law_pen" "_law_pen" (top 21) a_law_pen fd_law_pen
  g_law_pen : mg "_law_pen" = some (.ref a_law_pen)
  b_law_pen : Binds K fd_law_pen ["_law_cell_here"] []
  a_law_draw : Addr
  fd_law_draw : FuncData
  F_law_draw : Fun K "_law_draw" "_law_draw" (top 22) a_law_draw fd_law_draw
  g_law_draw : mg "_law_draw" = some (.ref a_law_draw)
  b_law_draw : Binds K fd_law_draw ["_law_pen_here", "_law_many"] []
  a_law_below : Addr
  fd_law_below : FuncData
  F_law_below : Fun K "_law_below" "_law_below" (top 23) a_law_below fd_law_below
  g_law_below : mg "_law_below" = some (.ref a_law_below)
  b_law_below : Binds K fd_law_below ["_law_thing", "_law_many"] []
  a_law_persons : Addr
  fd_law_persons : FuncData
  F_law_persons : Fun K "_law_persons" "_law_persons" (top 24) a_law_persons fd_law_persons
  g_law_persons : mg "_law_persons" = some (.ref a_law_persons)
  b_law_persons : Binds K fd_law_persons ["_law_pen_here"] []
  a_law_docket : Addr
  fd_law_docket : FuncData
  F_law_docket : Fun K "_law_docket" "_law_docket" (top 25) a_law_docket fd_law_docket
  g_law_docket : mg "_law_docket" = some (.ref a_law_docket)
  b_law_docket : Binds K fd_law_docket ["_law_pen_here", "_law_many", "_law_wide"] []
  a_law_orders : Addr
  fd_law_orders : FuncData
  F_law_orders : Fun K "_law_orders" "_law_orders" (top 26) a_law_orders fd_law_orders
  g_law_orders : mg "_law_orders" = some (.ref a_law_orders)
  b_law_orders : Binds K fd_law_orders ["_law_docket_here"] []
  a_law_inside : Addr
  fd_law_inside : FuncData
  F_law_inside : Fun K "_law_inside" "_law_inside" (top 27) a_law_inside fd_law_inside
  g_law_inside : mg "_law_inside" = some (.ref a_law_inside)
  b_law_inside : Binds K fd_law_inside ["_law_docket_here", "_law_first", "_law_last"] []
  a_law_first_crowd : Addr
  fd_law_first_crowd : FuncData
  F_law_first_crowd : Fun K "_law_first_crowd" "_law_first_crowd" (top 28) a_law_first_crowd fd_law_first_crowd
  g_law_first_crowd : mg "_law_first_crowd" = some (.ref a_law_first_crowd)
  b_law_first_crowd : Binds K fd_law_first_crowd ["_law_docket_here"] []
  a_law_is_crowd : Addr
  fd_law_is_crowd : FuncData
  F_law_is_crowd : Fun K "_law_is_crowd" "_law_is_crowd" (top 29) a_law_is_crowd fd_law_is_crowd
  g_law_is_crowd : mg "_law_is_crowd" = some (.ref a_law_is_crowd)
  b_law_is_crowd : Binds K fd_law_is_crowd ["_law_docket_here", "_law_thing"] []
  a_law_things : Addr
  fd_law_things : FuncData
  F_law_things : Fun K "_law_things" "_law_things" (top 30) a_law_things fd_law_things
  g_law_things : mg "_law_things" = some (.ref a_law_things)
  b_law_things : Binds K fd_law_things ["_law_pen_here", "_law_docket_here"] []
  a_law : Addr
  fd_law : FuncData
  F_law : Fun K "law" "law" (top 31) a_law fd_law
  g_law : mg "law" = some (.ref a_law)
  b_law : Binds K fd_law ["_law_script"] []
  n_all : mg "all" = none
  n_bool : mg "bool" = none
  n_divmod : mg "divmod" = none
  n_enumerate : mg "enumerate" = none
  n_int : mg "int" = none
  n_isinstance : mg "isinstance" = none
  n_len : mg "len" = none
  n_list : mg "list" = none
  n_max : mg "max" = none
  n_min : mg "min" = none
  n_range : mg "range" = none
  n_repr : mg "repr" = none
  n_set : mg "set" = none
  n_sorted : mg "sorted" = none
  n_tuple : mg "tuple" = none
  n_zip : mg "zip" = none
  c_DAYS : ∃ t, mg "DAYS" = some (.int 61 t)
  c_MOST_BEHIND : ∃ t, mg "MOST_BEHIND" = some (.int 9 t)
  c_MOST_HEARINGS : ∃ t, mg "MOST_HEARINGS" = some (.int 6 t)
  c_PERSONS : ∃ t, mg "PERSONS" = some (.int 6 t)
section
variable {P : Program} {w : World} {K : PySem.W.Frag} {mg : Str → Option Value} {base : Heap}
abbrev N_is_within : List Str := ["thing", "least", "most"]
theorem sc_is_within : FnScope N_is_within ["thing", "least", "most"] (defScope (top 6)) := ⟨rfl, rfl, rfl, by decide +kernel, rfl, by decide +kernel, by decide +kernel⟩
theorem ok_is_within (T : Tx K mg) : FnG P w K mg base 1 T.a_is_within T.fd_is_within ["thing", "least", "most"] m_is_within := by
  refine fnG_of (N := N_is_within) (k := 0) T.F_is_within sc_is_within rfl fun cdv A fs s H E hr hgd => ?_
  have hu := un100 hr
  have sc := sc_is_within
  exact (ss_one (s_ret (v_and (z_blt T.n_isinstance call_isaP dIsa_ok PyProof.Rows.boot_isinstance (a_cons (z_var 0 (pv 0)) (a_cons (z_ty T.n_int PyProof.Rows.boot_int) a_nil))) (v_and (v_not (z_blt T.n_isinstance call_isaP dIsa_ok PyProof.Rows.boot_isinstance (a_cons (z_var 0 (pv 0)) (a_cons (z_ty T.n_bool PyProof.Rows.boot_bool) a_nil)))) (v_and1 (e_chain (c_le hu) (c_le hu) (z_var 1 (pv 1)) (z_var 0 (pv 0)) (z_var 2 (pv 2))))))))
abbrev N_is_upto : List Str := ["thing", "many"]
theorem sc_is_upto : FnScope N_is_upto ["thing", "many"] (defScope (top 7)) := ⟨rfl, rfl, rfl, by decide +kernel, rfl, by decide +kernel, by decide +kernel⟩
theorem ok_is_upto (T : Tx K mg) : FnG P w K mg base 2 T.a_is_upto T.fd_is_upto ["thing", "many"] m_is_upto := by
  refine fnG_of (N := N_is_upto) (k := 1) T.F_is_upto sc_is_upto rfl fun cdv A fs s H E hr hgd => ?_
  have hu := un100 hr
  have sc := sc_is_upto
  exact (ss_one (s_ret (z_call (ok_is_within T) (hr.mono (by decide)) hgd T.g_is_within T.F_is_within.kp T.b_is_within (passAt (takes_of rfl rfl rfl rfl)) (a_cons (z_var 0 (pv 0)) (a_cons z_int (a_cons (z_sub (z_var 1 (pv 1)) z_int) a_nil))))))
abbrev N_are_persons : List Str := ["thing", "one", "other"]
theorem sc_are_persons : FnScope N_are_persons ["thing"] (defScope (top 11)) := ⟨rfl, rfl, rfl, by decide +kernel, rfl, by decide +kernel, by decide +kernel⟩
theorem ok_are_persons (T : Tx K mg) : FnG P w K mg base 3 T.a_are_persons T.fd_are_persons ["thing"] m_are_persons := by
  refine fnG_of (N := N_are_persons) (k := 2) T.F_are_persons sc_are_persons rfl fun cdv A fs s H E hr hgd => ?_
  have hu := un100 hr
  have sc := sc_are_persons
  exact (ss_cons (s_if (PW.pt (w_or (t_not (t_tru (z_blt T.n_isinstance call_isaP dIsa_ok PyProof.Rows.boot_isinstance (a_cons (z_var 0 (pv 0)) (a_cons (z_ty T.n_tuple PyProof.Rows.boot_tuple) a_nil))))) (w_or1 (t_not (t_tru (z_blt T.n_all (cr_all rfl) dAll_ok PyProof.Rows.boot_all (a_cons (z_comp (own := [("one", 1)]) (g := (.nm 1)) rfl sc.nd (i_seq (z_var 0 (pv 0))) (blkOk_by (sc := defScope (top 11)) (N := N_are_persons) (by first | decide +kernel | rfl)) (fun _ _ _ _ _ => (pg_name (i := 1) sc.nd rfl (by first | exact Or.inl rfl | exact Or.inr rfl))) (fun _ _ _ _ _ => ts_nil) (fun _ _ _ _ _ => (z_call (ok_is_upto T) (hr.mono (by decide)) hgd T.g_is_upto T.F_is_upto.kp T.b_is_upto no_out (a_cons (z_var 1 (pv 1)) (a_cons (z_gint T.c_PERSONS) a_nil)))) (by decide)) a_nil))))))) (ss_one (s_ret z_bl)) ss_nil)
  (ss_one (s_ret (z_blt T.n_all (cr_all rfl) dAll_ok PyProof.Rows.boot_all (a_cons (z_comp (own := [("one", 1), ("other", 2)]) (g := (.tp [1, 2])) rfl sc.nd (i_zip T.n_zip (a_cons (z_var 0 (pv 0)) (a_cons (z_sl (z_var 0 (pv 0)) (o_some z_int) o_none) a_nil))) (blkOk_by (sc := defScope (top 11)) (N := N_are_persons) (by first | decide +kernel | rfl)) (fun _ _ _ _ _ => (pg_tup rfl (pgs_cons (pg_name (i := 1) sc.nd rfl (by first | exact Or.inl rfl | exact Or.inr rfl)) (pgs_cons (pg_name (i := 2) sc.nd rfl (by first | exact Or.inl rfl | exact Or.inr rfl)) pgs_nil)))) (fun _ _ _ _ _ => ts_nil) (fun _ _ _ _ _ => (e_cmp (c_lt hu) (z_var 1 (pv 1)) (z_var 2 (pv 2)))) (by decide)) a_nil)))))
abbrev N_is_hearing : List Str := ["thing"]
theorem sc_is_hearing : FnScope N_is_hearing ["thing"] (defScope (top 12)) := ⟨rfl, rfl, rfl, by decide +kernel, rfl, by decide +kernel, by decide +kernel⟩
theorem ok_is_hearing (T : Tx K mg) : FnG P w K mg base 4 T.a_is_hearing T.fd_is_hearing ["thing"] m_is_hearing := by
  refine fnG_of (N := N_is_hearing) (k := 3) T.F_is_hearing sc_is_hearing rfl fun cdv A fs s H E hr hgd => ?_
  have hu := un100 hr
  have sc := sc_is_hearing
  exact (ss_cons (s_if (PW.pt (w_or (t_not (t_tru (z_blt T.n_isinstance call_isaP dIsa_ok PyProof.Rows.boot_isinstance (a_cons (z_var 0 (pv 0)) (a_cons (z_ty T.n_tuple PyProof.Rows.boot_tuple) a_nil))))) (w_or (tt_cmp (c_ne hu) (z_blt T.n_len call_len dLen_ok PySem.boot_len (a_cons (z_var 0 (pv 0)) a_nil)) z_int) (w_or (t_not (t_tru (z_call (ok_is_upto T) (hr.mono (by decide)) hgd T.g_is_upto T.F_is_upto.kp T.b_is_upto (passAt (takes_of rfl rfl rfl rfl)) (a_cons (z_ix (z_var 0 (pv 0)) z_int) (a_cons (z_gint T.c_DAYS) a_nil))))) (w_or1 (t_not (t_tru (z_call (ok_is_upto T) (hr.mono (by decide)) hgd T.g_is_upto T.F_is_upto.kp T.b_is_upto (passAt (takes_of rfl rfl rfl rfl)) (a_cons (z_ix (z_var 0 (pv 0)) z_int) (a_cons (z_gint T.c_DAYS) a_nil)))))))))) (ss_one (s_ret z_bl)) ss_nil)
  (ss_one (s_ret (v_and (e_chain (c_le hu) (c_le hu) (z_ix (z_var 0 (pv 0)) z_int) (z_ix (z_var 0 (pv 0)) z_int) (z_add (z_ix (z_var 0 (pv 0)) z_int) (z_gint T.c_MOST_BEHIND))) (v_and1 (z_call (ok_are_persons T) (hr.mono (by decide)) hgd T.g_are_persons T.F_are_persons.kp T.b_are_persons (passAt (takes_of rfl rfl rfl rfl)) (a_cons (z_ix (z_var 0 (pv 0)) z_int) a_nil)))))))
abbrev N_is_docket : List Str := ["thing", "one"]
theorem sc_is_docket : FnScope N_is_docket ["thing"] (defScope (top 13)) := ⟨rfl, rfl, rfl, by decide +kernel, rfl, by decide +kernel, by decide +kernel⟩
theorem ok_is_docket (T : Tx K mg) : FnG P w K mg base 5 T.a_is_docket T.fd_is_docket ["thing"] m_is_docket := by
  refine fnG_of (N := N_is_docket) (k := 4) T.F_is_docket sc_is_docket rfl fun cdv A fs s H E hr hgd => ?_
  have hu := un100 hr
  have sc := sc_is_docket
  exact (ss_cons (s_if (PW.pt (w_or (t_not (t_tru (z_blt T.n_isinstance call_isaP dIsa_ok PyProof.Rows.boot_isinstance (a_cons (z_var 0 (pv 0)) (a_cons (z_ty T.n_tuple PyProof.Rows.boot_tuple) a_nil))))) (w_or1 (t_not (tt_chain (c_le hu) (c_le hu) z_int (z_blt T.n_len call_len dLen_ok PySem.boot_len (a_cons (z_var 0 (pv 0)) a_nil)) (z_gint T.c_MOST_HEARINGS)))))) (ss_one (s_ret z_bl)) ss_nil)
  (ss_one (s_ret (z_blt T.n_all (cr_all rfl) dAll_ok PyProof.Rows.boot_all (a_cons (z_comp (own := [("one", 1)]) (g := (.nm 1)) rfl sc.nd (i_seq (z_var 0 (pv 0))) (blkOk_by (sc := defScope (top 13)) (N := N_is_docket) (by first | decide +kernel | rfl)) (fun _ _ _ _ _ => (pg_name (i := 1) sc.nd rfl (by first | exact Or.inl rfl | exact Or.inr rfl))) (fun _ _ _ _ _ => ts_nil) (fun _ _ _ _ _ => (z_call (ok_is_hearing T) (hr.mono (by decide)) hgd T.g_is_hearing T.F_is_hearing.kp T.b_is_hearing no_out (a_cons (z_var 1 (pv 1)) a_nil))) (by decide)) a_nil)))))
abbrev N_need_docket : List Str := ["thing"]
theorem sc_need_docket : FnScope N_need_docket ["thing"] (defScope (top 14)) := ⟨rfl, rfl, rfl, by decide +kernel, rfl, by decide +kernel, by decide +kernel⟩
theorem ok_need_docket (T : Tx K mg) : FnG P w K mg base 6 T.a_need_docket T.fd_need_docket ["thing"] m_need_docket := by
  refine fnG_of (N := N_need_docket) (k := 5) T.F_need_docket sc_need_docket rfl fun cdv A fs s H E hr hgd => ?_
  have hu := un100 hr
  have sc := sc_need_docket
  exact (ss_one (s_if (t_not (t_tru (z_call (ok_is_docket T) (hr.mono (by decide)) hgd T.g_is_docket T.F_is_docket.kp T.b_is_docket (passAt (takes_of rfl rfl rfl rfl)) (a_cons (z_var 0 (pv 0)) a_nil)))) (ss_one s_bad) ss_nil))
abbrev N_within : List Str := ["docket", "first", "last", "at", "hearing"]
theorem sc_within : FnScope N_within ["docket", "first", "last"] (defScope (top 15)) := ⟨rfl, rfl, rfl, by decide +kernel, rfl, by decide +kernel, by decide +kernel⟩
theorem ok_within (T : Tx K mg) : FnG P w K mg base 1 T.a_within T.fd_within ["docket", "first", "last"] m_within := by
  refine fnG_of (N := N_within) (k := 0) T.F_within sc_within rfl fun cdv A fs s H E hr hgd => ?_
  have hu := un100 hr
  have sc := sc_within
  exact (ss_one (s_ret (z_typ T.n_tuple call_tuple_of dTuple_ok PyProof.Rows.boot_tuple (a_cons (z_comp (own := [("at", 3), ("hearing", 4)]) (g := (.tp [3, 4])) rfl sc.nd (i_enumT T.n_enumerate (a_cons (z_var 0 (pv 0)) a_nil)) (blkOk_by (sc := defScope (top 15)) (N := N_within) (by first | decide +kernel | rfl)) (fun _ _ _ _ _ => (pg_tup rfl (pgs_cons (pg_name (i := 3) sc.nd rfl (by first | exact Or.inl rfl | exact Or.inr rfl)) (pgs_cons (pg_name (i := 4) sc.nd rfl (by first | exact Or.inl rfl | exact Or.inr rfl)) pgs_nil)))) (fun _ _ _ _ _ => (ts_one (PW.pt (w_and (tt_cmp (c_ge hu) (z_ix (z_var 4 (pv 4)) z_int) (z_var 1 (pv 1))) (w_and1 (tt_cmp (c_le hu) (z_ix (z_var 4 (pv 4)) z_int) (z_var 2 (pv 2)))))))) (fun _ _ _ _ _ => (z_var 3 (pv 3))) (by decide)) a_nil))))
abbrev N_crowd_holds : List Str := ["docket", "thing", "first", "last", "places", "one"]
theorem sc_crowd_holds : FnScope N_crowd_holds ["docket", "thing"] (defScope (top 16)) := ⟨rfl, rfl, rfl, by decide +kernel, rfl, by decide +kernel, by decide +kernel⟩
theorem ok_crowd_holds (T : Tx K mg) : FnG P w K mg base 7 T.a_crowd_holds T.fd_crowd_holds ["docket", "thing"] m_crowd_holds := by
  refine fnG_of (N := N_crowd_holds) (k := 6) T.F_crowd_holds sc_crowd_holds rfl fun cdv A fs s H E hr hgd => ?_
  have hu := un100 hr
  have sc := sc_crowd_holds
  exact (ss_cons (s_expr (z_call (ok_need_docket T) (hr.mono (by decide)) hgd T.g_need_docket T.F_need_docket.kp T.b_need_docket (passAt (takes_of rfl rfl rfl rfl)) (a_cons (z_var 0 (pv 0)) a_nil)))
  (ss_cons (s_if (PW.pt (w_or (t_not (t_tru (z_blt T.n_isinstance call_isaP dIsa_ok PyProof.Rows.boot_isinstance (a_cons (z_var 1 (pv 1)) (a_cons (z_ty T.n_tuple PyProof.Rows.boot_tuple) a_nil))))) (w_or (tt_cmp (c_ne hu) (z_blt T.n_len call_len dLen_ok PySem.boot_len (a_cons (z_var 1 (pv 1)) a_nil)) z_int) (w_or (t_not (t_tru (z_call (ok_is_upto T) (hr.mono (by decide)) hgd T.g_is_upto T.F_is_upto.kp T.b_is_upto (passAt (takes_of rfl rfl rfl rfl)) (a_cons (z_ix (z_var 1 (pv 1)) z_int) (a_cons (z_gint T.c_DAYS) a_nil))))) (w_or1 (t_not (t_tru (z_call (ok_is_upto T) (hr.mono (by decide)) hgd T.g_is_upto T.F_is_upto.kp T.b_is_upto (passAt (takes_of rfl rfl rfl rfl)) (a_cons (z_ix (z_var 1 (pv 1)) z_int) (a_cons (z_gint T.c_DAYS) a_nil)))))))))) (ss_one (s_ret z_bl)) ss_nil)
  (ss_cons (s_tup (is := [2, 3, 4]) (z_var 1 (pv 1)) (pg_tup rfl (pgs_cons (pg_name (i := 2) sc.nd rfl (by first | exact Or.inl rfl | exact Or.inr rfl)) (pgs_cons (pg_name (i := 3) sc.nd rfl (by first | exact Or.inl rfl | exact Or.inr rfl)) (pgs_cons (pg_name (i := 4) sc.nd rfl (by first | exact Or.inl rfl | exact Or.inr rfl)) pgs_nil)))))
  (ss_cons (s_if (PW.pt (w_or (t_not (t_tru (z_blt T.n_isinstance call_isaP dIsa_ok PyProof.Rows.boot_isinstance (a_cons (z_var 4 (pv 4)) (a_cons (z_ty T.n_tuple PyProof.Rows.boot_tuple) a_nil))))) (w_or1 (t_not (t_tru (z_blt T.n_all (cr_all rfl) dAll_ok PyProof.Rows.boot_all (a_cons (z_comp (own := [("one", 5)]) (g := (.nm 5)) rfl sc.nd (i_seq (z_var 4 (pv 4))) (blkOk_by (sc := defScope (top 16)) (N := N_crowd_holds) (by first | decide +kernel | rfl)) (fun _ _ _ _ _ => (pg_name (i := 5) sc.nd rfl (by first | exact Or.inl rfl | exact Or.inr rfl))) (fun _ _ _ _ _ => ts_nil) (fun _ _ _ _ _ => (z_call (ok_is_upto T) (hr.mono (by decide)) hgd T.g_is_upto T.F_is_upto.kp T.b_is_upto no_out (a_cons (z_var 5 (pv 5)) (a_cons (z_blt T.n_len call_len dLen_ok PySem.boot_len (a_cons (z_var 0 (pv 0)) a_nil)) a_nil)))) (by decide)) a_nil))))))) (ss_one (s_ret z_bl)) ss_nil)
  (ss_one (s_ret (v_and (e_cmp (c_le hu) (z_var 2 (pv 2)) (z_var 3 (pv 3))) (v_and (e_cmp (c_eq hu) (z_var 4 (pv 4)) (z_call (ok_within T) (hr.mono (by decide)) hgd T.g_within T.F_within.kp T.b_within (passAt (takes_of rfl rfl rfl rfl)) (a_cons (z_var 0 (pv 0)) (a_cons (z_var 2 (pv 2)) (a_cons (z_var 3 (pv 3)) a_nil))))) (v_and1 (e_cmp (c_gt hu) (z_blt T.n_len call_len dLen_ok PySem.boot_len (a_cons (z_var 4 (pv 4)) a_nil)) (z_add (z_sub (z_var 3 (pv 3)) (z_var 2 (pv 2))) z_int)))))))))))
abbrev N_least_crowd : List Str := ["docket", "first", "last", "places"]
theorem sc_least_crowd : FnScope N_least_crowd ["docket"] (defScope (top 17)) := ⟨rfl, rfl, rfl, by decide +kernel, rfl, by decide +kernel, by decide +kernel⟩
theorem ok_least_crowd (T : Tx K mg) : FnG P w K mg base 2 T.a_least_crowd T.fd_least_crowd ["docket"] m_least_crowd := by
  refine fnG_of (N := N_least_crowd) (k := 1) T.F_least_crowd sc_least_crowd rfl fun cdv A fs s H E hr hgd => ?_
  have hu := un100 hr
  have sc := sc_least_crowd
  exact (ss_cons (s_for (g := (.nm 1)) (passes_of rfl) rfl (i_range1 T.n_range (a_cons (z_gint T.c_DAYS) a_nil)) (pg_name (i := 1) sc.nd rfl (by first | exact Or.inl rfl | exact Or.inr rfl)) (ss_one (s_for (g := (.nm 2)) (passes_of rfl) rfl (i_range2 T.n_range (a_cons (z_var 1 (pv 1)) (a_cons (z_gint T.c_DAYS) a_nil))) (pg_name (i := 2) sc.nd rfl (by first | exact Or.inl rfl | exact Or.inr rfl)) (ss_cons (s_set (i := 3) sc.nd rfl (by first | exact Or.inl rfl | exact Or.inr rfl) (z_call (ok_within T) (hr.mono (by decide)) hgd T.g_within T.F_within.kp T.b_within (passAt (takes_of rfl rfl rfl rfl)) (a_cons (z_var 0 (pv 0)) (a_cons (z_var 1 (pv 1)) (a_cons (z_var 2 (pv 2)) a_nil)))))
  (ss_one (s_if (tt_cmp (c_gt hu) (z_blt T.n_len call_len dLen_ok PySem.boot_len (a_cons (z_var 3 (pv 3)) a_nil)) (z_add (z_sub (z_var 2 (pv 2)) (z_var 1 (pv 1))) z_int)) (ss_one (s_ret (z_tup (a_cons (z_var 1 (pv 1)) (a_cons (z_var 2 (pv 2)) (a_cons (z_var 3 (pv 3)) a_nil)))))) ss_nil))))))
  (ss_one (s_ret z_non)))
abbrev N_crowd_of : List Str := ["docket"]
theorem sc_crowd_of : FnScope N_crowd_of ["docket"] (defScope (top 18)) := ⟨rfl, rfl, rfl, by decide +kernel, rfl, by decide +kernel, by decide +kernel⟩
theorem ok_crowd_of (T : Tx K mg) : FnG P w K mg base 7 T.a_crowd_of T.fd_crowd_of ["docket"] m_crowd_of := by
  refine fnG_of (N := N_crowd_of) (k := 6) T.F_crowd_of sc_crowd_of rfl fun cdv A fs s H E hr hgd => ?_
  have hu := un100 hr
  have sc := sc_crowd_of
  exact (ss_cons (s_expr (z_call (ok_need_docket T) (hr.mono (by decide)) hgd T.g_need_docket T.F_need_docket.kp T.b_need_docket (passAt (takes_of rfl rfl rfl rfl)) (a_cons (z_var 0 (pv 0)) a_nil)))
  (ss_one (s_ret (z_call (ok_least_crowd T) (hr.mono (by decide)) hgd T.g_least_crowd T.F_least_crowd.kp T.b_least_crowd (passAt (takes_of rfl rfl rfl rfl)) (a_cons (z_var 0 (pv 0)) a_nil)))))
abbrev N_law_cell : List Str := ["_law_script", "_law_k"]
theorem sc_law_cell : FnScope N_law_cell ["_law_script", "_law_k"] (defScope (top 20)) := ⟨rfl, rfl, rfl, by decide +kernel, rfl, by decide +kernel, by decide +kernel⟩
theorem ok_law_cell (T : Tx K mg) : FnG P w K mg base 1 T.a_law_cell T.fd_law_cell ["_law_script", "_law_k"] m_law_cell := by
  refine fnG_of (N := N_law_cell) (k := 0) T.F_law_cell sc_law_cell rfl fun cdv A fs s H E hr hgd => ?_
  have hu := un100 hr
  have sc := sc_law_cell
  exact (ss_cons (s_if (tt_cmp (c_lt hu) (z_var 1 (pv 1)) (z_blt T.n_len call_len dLen_ok PySem.boot_len (a_cons (z_var 0 (pv 0)) a_nil))) (ss_one (s_ret (z_ix (z_var 0 (pv 0)) (z_var 1 (pv 1))))) ss_nil)
  (ss_one (s_ret z_int)))
abbrev N_law_pen : List Str := ["_law_cell_here", "_law_more"]
theorem sc_law_pen : FnScope N_law_pen ["_law_cell_here"] (defScope (top 21)) := ⟨rfl, rfl, rfl, by decide +kernel, rfl, by decide +kernel, by decide +kernel⟩
theorem ok_law_pen (T : Tx K mg) : FnG P w K mg base 1 T.a_law_pen T.fd_law_pen ["_law_cell_here"] m_law_pen := by
  refine fnG_of (N := N_law_pen) (k := 0) T.F_law_pen sc_law_pen rfl fun cdv A fs s H E hr hgd => ?_
  have hu := un100 hr
  have sc := sc_law_pen
  exact (ss_cons (s_set (i := 1) sc.nd rfl (by first | exact Or.inl rfl | exact Or.inr rfl) (z_blt T.n_max (call_max2 rfl) dMax2_ok PyProof.Rows.boot_max (a_cons (z_var 0 (pv 0)) (a_cons (z_sub z_int (z_var 0 (pv 0))) a_nil))))
  (ss_one (s_ret (z_lstN (a_cons (z_var 1 (pv 1)) (a_cons (z_typ T.n_int call_int1 dInt_ok PyProof.Rows.boot_int (a_cons (e_cmp (c_ge hu) (z_var 1 (pv 1)) (z_pow z_int z_int)) a_nil)) a_nil))))))
abbrev N_law_draw : List Str := ["_law_pen_here", "_law_many", "_law_stir", "_law_rest", "_law_drawn"]
theorem sc_law_draw : FnScope N_law_draw ["_law_pen_here", "_law_many"] (defScope (top 22)) := ⟨rfl, rfl, rfl, by decide +kernel, rfl, by decide +kernel, by decide +kernel⟩
theorem ok_law_draw (T : Tx K mg) : FnG P w K mg base 1 T.a_law_draw T.fd_law_draw ["_law_pen_here", "_law_many"] m_law_draw := by
  refine fnG_of (N := N_law_draw) (k := 0) T.F_law_draw sc_law_draw rfl fun cdv A fs s H E hr hgd => ?_
  have hu := un100 hr
  have sc := sc_law_draw
  exact (ss_cons (s_if (tt_cmp (c_eq hu) (z_ix (z_var 0 (pv 0)) z_int) z_int) (ss_cons (s_tup (is := [3, 4]) (z_blt T.n_divmod call_divmod dDivmod_ok PyProof.Rows.boot_divmod (a_cons (z_ix (z_var 0 (pv 0)) z_int) (a_cons (z_var 1 (pv 1)) a_nil))) (pg_tup rfl (pgs_cons (pg_name (i := 3) sc.nd rfl (by first | exact Or.inl rfl | exact Or.inr rfl)) (pgs_cons (pg_name (i := 4) sc.nd rfl (by first | exact Or.inl rfl | exact Or.inr rfl)) pgs_nil))))
  (ss_cons (s_setix (z_var 0 (pv 0)) z_int (z_var 3 (pv 3)))
  (ss_one (s_ret (z_var 4 (pv 4)))))) ss_nil)
  (ss_cons (s_set (i := 2) sc.nd rfl (by first | exact Or.inl rfl | exact Or.inr rfl) (z_mod (z_mul (z_add (z_mod (z_ix (z_var 0 (pv 0)) z_int) z_int) z_int) z_int) z_int))
  (ss_cons (s_set (i := 2) sc.nd rfl (by first | exact Or.inl rfl | exact Or.inr rfl) (z_mod (z_add (z_mul (z_var 2 (pv 2)) (z_var 2 (pv 2))) z_int) z_int))
  (ss_cons (s_setix (z_var 0 (pv 0)) z_int (z_mod (z_add (z_mul (z_var 2 (pv 2)) z_int) z_int) z_int))
  (ss_one (s_ret (z_mod (z_fdiv (z_ix (z_var 0 (pv 0)) z_int) z_int) (z_var 1 (pv 1)))))))))
abbrev N_law_below : List Str := ["_law_thing", "_law_many"]
theorem sc_law_below : FnScope N_law_below ["_law_thing", "_law_many"] (defScope (top 23)) := ⟨rfl, rfl, rfl, by decide +kernel, rfl, by decide +kernel, by decide +kernel⟩
theorem ok_law_below (T : Tx K mg) : FnG P w K mg base 1 T.a_law_below T.fd_law_below ["_law_thing", "_law_many"] m_law_below := by
  refine fnG_of (N := N_law_below) (k := 0) T.F_law_below sc_law_below rfl fun cdv A fs s H E hr hgd => ?_
  have hu := un100 hr
  have sc := sc_law_below
  exact (ss_one (s_ret (v_and (z_blt T.n_isinstance call_isaP dIsa_ok PyProof.Rows.boot_isinstance (a_cons (z_var 0 (pv 0)) (a_cons (z_ty T.n_int PyProof.Rows.boot_int) a_nil))) (v_and (v_not (z_blt T.n_isinstance call_isaP dIsa_ok PyProof.Rows.boot_isinstance (a_cons (z_var 0 (pv 0)) (a_cons (z_ty T.n_bool PyProof.Rows.boot_bool) a_nil)))) (v_and1 (e_chain (c_le hu) (c_lt hu) z_int (z_var 0 (pv 0)) (z_var 1 (pv 1))))))))
abbrev N_law_persons : List Str := ["_law_pen_here", "_law_turn"]
theorem sc_law_persons : FnScope N_law_persons ["_law_pen_here"] (defScope (top 24)) := ⟨rfl, rfl, rfl, by decide +kernel, rfl, by decide +kernel, by decide +kernel⟩
theorem ok_law_persons (T : Tx K mg) : FnG P w K mg base 2 T.a_law_persons T.fd_law_persons ["_law_pen_here"] m_law_persons := by
  refine fnG_of (N := N_law_persons) (k := 1) T.F_law_persons sc_law_persons rfl fun cdv A fs s H E hr hgd => ?_
  have hu := un100 hr
  have sc := sc_law_persons
  exact (ss_one (s_ret (z_typ T.n_tuple call_tuple_of dTuple_ok PyProof.Rows.boot_tuple (a_cons (z_sortSet T.n_sorted T.n_set (z_comp (own := [("_law_turn", 1)]) (g := (.nm 1)) rfl sc.nd (i_range1 T.n_range (a_cons (z_call (ok_law_draw T) (hr.mono (by decide)) hgd T.g_law_draw T.F_law_draw.kp T.b_law_draw (passAt (takes_of rfl rfl rfl rfl)) (a_cons (z_var 0 (pv 0)) (a_cons z_int a_nil))) a_nil)) (blkOk_by (sc := defScope (top 24)) (N := N_law_persons) (by first | decide +kernel | rfl)) (fun _ _ _ _ _ => (pg_name (i := 1) sc.nd rfl (by first | exact Or.inl rfl | exact Or.inr rfl))) (fun _ _ _ _ _ => ts_nil) (fun _ _ _ _ _ => (z_call (ok_law_draw T) (hr.mono (by decide)) hgd T.g_law_draw T.F_law_draw.kp T.b_law_draw no_out (a_cons (z_var 0 (pv 0)) (a_cons (z_ix (z_lst (a_cons z_int (a_cons z_int a_nil))) (z_call (ok_law_draw T) (hr.mono (by decide)) hgd T.g_law_draw T.F_law_draw.kp T.b_law_draw no_out (a_cons (z_var 0 (pv 0)) (a_cons z_int a_nil)))) a_nil)))) (by decide))) a_nil))))
abbrev N_law_docket : List Str := ["_law_pen_here", "_law_many", "_law_wide", "_law_turn", "_law_base", "_law_close", "_law_got", "_law_first"]
theorem sc_law_docket : FnScope N_law_docket ["_law_pen_here", "_law_many", "_law_wide"] (defScope (top 25)) := ⟨rfl, rfl, rfl, by decide +kernel, rfl, by decide +kernel, by decide +kernel⟩
theorem ok_law_docket (T : Tx K mg) : FnG P w K mg base 3 T.a_law_docket T.fd_law_docket ["_law_pen_here", "_law_many", "_law_wide"] m_law_docket := by
  refine fnG_of (N := N_law_docket) (k := 2) T.F_law_docket sc_law_docket rfl fun cdv A fs s H E hr hgd => ?_
  have hu := un100 hr
  have sc := sc_law_docket
  exact (ss_cons (s_parB (i := 4) (j := 5) (l := 6) rfl sc.nd rfl rfl rfl (by decide) (by decide) (by decide) rfl rfl rfl (a_cons (z_call (ok_law_draw T) (hr.mono (by decide)) hgd T.g_law_draw T.F_law_draw.kp T.b_law_draw (passAt (takes_of rfl rfl rfl rfl)) (a_cons (z_var 0 (pv 0)) (a_cons z_int a_nil))) (a_cons (z_add z_int (z_call (ok_law_draw T) (hr.mono (by decide)) hgd T.g_law_draw T.F_law_draw.kp T.b_law_draw (passAt (takes_of rfl rfl rfl rfl)) (a_cons (z_var 0 (pv 0)) (a_cons z_int a_nil)))) (a_cons (z_lstN a_nil) a_nil))) (by rfl))
  (ss_cons (s_for (g := (.nm 3)) (passes_of rfl) rfl (i_range1 T.n_range (a_cons (z_var 1 (pv 1)) a_nil)) (pg_name (i := 3) sc.nd rfl (by first | exact Or.inl rfl | exact Or.inr rfl)) (ss_cons (s_set (i := 7) sc.nd rfl (by first | exact Or.inl rfl | exact Or.inr rfl) (z_add (z_var 4 (pv 4)) (z_call (ok_law_draw T) (hr.mono (by decide)) hgd T.g_law_draw T.F_law_draw.kp T.b_law_draw (passAt (takes_of rfl rfl rfl rfl)) (a_cons (z_var 0 (pv 0)) (a_cons (z_var 5 (pv 5)) a_nil)))))
  (ss_one (s_expr (z_app (z_var 6 (pv 6)) (a_cons (z_tup (a_cons (z_var 7 (pv 7)) (a_cons (z_blt T.n_min (call_min2 rfl) dMin2_ok PyProof.Rows.boot_min (a_cons z_int (a_cons (z_add (z_var 7 (pv 7)) (z_call (ok_law_draw T) (hr.mono (by decide)) hgd T.g_law_draw T.F_law_draw.kp T.b_law_draw (passAt (takes_of rfl rfl rfl rfl)) (a_cons (z_var 0 (pv 0)) (a_cons (z_var 2 (pv 2)) a_nil)))) a_nil))) (a_cons (z_call (ok_law_persons T) (hr.mono (by decide)) hgd T.g_law_persons T.F_law_persons.kp T.b_law_persons (passAt (takes_of rfl rfl rfl rfl)) (a_cons (z_var 0 (pv 0)) a_nil)) a_nil)))) a_nil))))))
  (ss_one (s_ret (z_typ T.n_tuple call_tuple_of dTuple_ok PyProof.Rows.boot_tuple (a_cons (z_var 6 (pv 6)) a_nil))))))
abbrev N_law_orders : List Str := ["_law_docket_here", "_law_rows", "_law_first", "_law_last", "_law_persons_here", "_law_longer", "_law_row", "_law_day"]
theorem sc_law_orders : FnScope N_law_orders ["_law_docket_here"] (defScope (top 26)) := ⟨rfl, rfl, rfl, by decide +kernel, rfl, by decide +kernel, by decide +kernel⟩
theorem ok_law_orders (T : Tx K mg) : FnG P w K mg base 1 T.a_law_orders T.fd_law_orders ["_law_docket_here"] m_law_orders := by
  refine fnG_of (N := N_law_orders) (k := 0) T.F_law_orders sc_law_orders rfl fun cdv A fs s H E hr hgd => ?_
  have hu := un100 hr
  have sc := sc_law_orders
  exact (ss_cons (s_set (i := 1) sc.nd rfl (by first | exact Or.inl rfl | exact Or.inr rfl) (z_lst (a_cons (z_tup a_nil) a_nil)))
  (ss_cons (s_for (g := (.tp [2, 3, 4])) (passes_of rfl) rfl (i_seq (z_var 0 (pv 0))) (pg_tup rfl (pgs_cons (pg_name (i := 2) sc.nd rfl (by first | exact Or.inl rfl | exact Or.inr rfl)) (pgs_cons (pg_name (i := 3) sc.nd rfl (by first | exact Or.inl rfl | exact Or.inr rfl)) (pgs_cons (pg_name (i := 4) sc.nd rfl (by first | exact Or.inl rfl | exact Or.inr rfl)) pgs_nil)))) (ss_cons (s_set (i := 5) sc.nd rfl (by first | exact Or.inl rfl | exact Or.inr rfl) (z_lstN a_nil))
  (ss_cons (s_for (g := (.nm 6)) (passes_of rfl) rfl (i_seq (z_var 1 (pv 1))) (pg_name (i := 6) sc.nd rfl (by first | exact Or.inl rfl | exact Or.inr rfl)) (ss_one (s_expr (z_ext (z_var 5 (pv 5)) (a_cons (z_comp (own := [("_law_day", 7)]) (g := (.nm 7)) rfl sc.nd (i_range2 T.n_range (a_cons (z_var 2 (pv 2)) (a_cons (z_add (z_var 3 (pv 3)) z_int) a_nil))) (blkOk_by (sc := defScope (top 26)) (N := N_law_orders) (by first | decide +kernel | rfl)) (fun _ _ _ _ _ => (pg_name (i := 7) sc.nd rfl (by first | exact Or.inl rfl | exact Or.inr rfl))) (fun _ _ _ _ _ => (ts_one (tt_cmp (c_nin hu) (z_var 7 (pv 7)) (z_var 6 (pv 6))))) (fun _ _ _ _ _ => (z_add (z_var 6 (pv 6)) (z_tup (a_cons (z_var 7 (pv 7)) a_nil)))) (by decide)) a_nil)))))
  (ss_one (s_set (i := 1) sc.nd rfl (by first | exact Or.inl rfl | exact Or.inr rfl) (z_var 5 (pv 5)))))))
  (ss_one (s_ret (z_var 1 (pv 1))))))
abbrev N_law_inside : List Str := ["_law_docket_here", "_law_first", "_law_last", "_law_at", "_law_one"]
theorem sc_law_inside : FnScope N_law_inside ["_law_docket_here", "_law_first", "_law_last"] (defScope (top 27)) := ⟨rfl, rfl, rfl, by decide +kernel, rfl, by decide +kernel, by decide +kernel⟩
theorem ok_law_inside (T : Tx K mg) : FnG P w K mg base 1 T.a_law_inside T.fd_law_inside ["_law_docket_here", "_law_first", "_law_last"] m_law_inside := by
  refine fnG_of (N := N_law_inside) (k := 0) T.F_law_inside sc_law_inside rfl fun cdv A fs s H E hr hgd => ?_
  have hu := un100 hr
  have sc := sc_law_inside
  exact (ss_one (s_ret (z_typ T.n_tuple call_tuple_of dTuple_ok PyProof.Rows.boot_tuple (a_cons (z_comp (own := [("_law_at", 3), ("_law_one", 4)]) (g := (.tp [3, 4])) rfl sc.nd (i_enumT T.n_enumerate (a_cons (z_var 0 (pv 0)) a_nil)) (blkOk_by (sc := defScope (top 27)) (N := N_law_inside) (by first | decide +kernel | rfl)) (fun _ _ _ _ _ => (pg_tup rfl (pgs_cons (pg_name (i := 3) sc.nd rfl (by first | exact Or.inl rfl | exact Or.inr rfl)) (pgs_cons (pg_name (i := 4) sc.nd rfl (by first | exact Or.inl rfl | exact Or.inr rfl)) pgs_nil)))) (fun _ _ _ _ _ => (ts_one (PW.pt (w_and (tt_cmp (c_le hu) (z_var 1 (pv 1)) (z_ix (z_var 4 (pv 4)) z_int)) (w_and1 (tt_cmp (c_le hu) (z_ix (z_var 4 (pv 4)) z_int) (z_var 2 (pv 2)))))))) (fun _ _ _ _ _ => (z_var 3 (pv 3))) (by decide)) a_nil))))
abbrev N_law_first_crowd : List Str := ["_law_docket_here", "_law_first", "_law_last"]
theorem sc_law_first_crowd : FnScope N_law_first_crowd ["_law_docket_here"] (defScope (top 28)) := ⟨rfl, rfl, rfl, by decide +kernel, rfl, by decide +kernel, by decide +kernel⟩
theorem ok_law_first_crowd (T : Tx K mg) : FnG P w K mg base 2 T.a_law_first_crowd T.fd_law_first_crowd ["_law_docket_here"] m_law_first_crowd := by
  refine fnG_of (N := N_law_first_crowd) (k := 1) T.F_law_first_crowd sc_law_first_crowd rfl fun cdv A fs s H E hr hgd => ?_
  have hu := un100 hr
  have sc := sc_law_first_crowd
  exact (ss_cons (s_for (g := (.nm 1)) (passes_of rfl) rfl (i_range1 T.n_range (a_cons z_int a_nil)) (pg_name (i := 1) sc.nd rfl (by first | exact Or.inl rfl | exact Or.inr rfl)) (ss_one (s_for (g := (.nm 2)) (passes_of rfl) rfl (i_range2 T.n_range (a_cons (z_var 1 (pv 1)) (a_cons z_int a_nil))) (pg_name (i := 2) sc.nd rfl (by first | exact Or.inl rfl | exact Or.inr rfl)) (ss_one (s_if (tt_cmp (c_gt hu) (z_blt T.n_len call_len dLen_ok PySem.boot_len (a_cons (z_call (ok_law_inside T) (hr.mono (by decide)) hgd T.g_law_inside T.F_law_inside.kp T.b_law_inside (passAt (takes_of rfl rfl rfl rfl)) (a_cons (z_var 0 (pv 0)) (a_cons (z_var 1 (pv 1)) (a_cons (z_var 2 (pv 2)) a_nil)))) a_nil)) (z_add (z_sub (z_var 2 (pv 2)) (z_var 1 (pv 1))) z_int)) (ss_one (s_ret (z_tup (a_cons (z_var 1 (pv 1)) (a_cons (z_var 2 (pv 2)) (a_cons (z_call (ok_law_inside T) (hr.mono (by decide)) hgd T.g_law_inside T.F_law_inside.kp T.b_law_inside (passAt (takes_of rfl rfl rfl rfl)) (a_cons (z_var 0 (pv 0)) (a_cons (z_var 1 (pv 1)) (a_cons (z_var 2 (pv 2)) a_nil)))) a_nil)))))) ss_nil)))))
  (ss_one (s_ret z_non)))
abbrev N_law_is_crowd : List Str := ["_law_docket_here", "_law_thing", "_law_first", "_law_last", "_law_places", "_law_one"]
theorem sc_law_is_crowd : FnScope N_law_is_crowd ["_law_docket_here", "_law_thing"] (defScope (top 29)) := ⟨rfl, rfl, rfl, by decide +kernel, rfl, by decide +kernel, by decide +kernel⟩
theorem ok_law_is_crowd (T : Tx K mg) : FnG P w K mg base 2 T.a_law_is_crowd T.fd_law_is_crowd ["_law_docket_here", "_law_thing"] m_law_is_crowd := by
  refine fnG_of (N := N_law_is_crowd) (k := 1) T.F_law_is_crowd sc_law_is_crowd rfl fun cdv A fs s H E hr hgd => ?_
  have hu := un100 hr
  have sc := sc_law_is_crowd
  exact (ss_cons (s_if (PW.pt (w_or (t_not (t_tru (z_blt T.n_isinstance call_isaP dIsa_ok PyProof.Rows.boot_isinstance (a_cons (z_var 1 (pv 1)) (a_cons (z_ty T.n_tuple PyProof.Rows.boot_tuple) a_nil))))) (w_or (tt_cmp (c_ne hu) (z_blt T.n_len call_len dLen_ok PySem.boot_len (a_cons (z_var 1 (pv 1)) a_nil)) z_int) (w_or (t_not (t_tru (z_call (ok_law_below T) (hr.mono (by decide)) hgd T.g_law_below T.F_law_below.kp T.b_law_below (passAt (takes_of rfl rfl rfl rfl)) (a_cons (z_ix (z_var 1 (pv 1)) z_int) (a_cons z_int a_nil))))) (w_or1 (t_not (t_tru (z_call (ok_law_below T) (hr.mono (by decide)) hgd T.g_law_below T.F_law_below.kp T.b_law_below (passAt (takes_of rfl rfl rfl rfl)) (a_cons (z_ix (z_var 1 (pv 1)) z_int) (a_cons z_int a_nil)))))))))) (ss_one (s_ret z_bl)) ss_nil)
  (ss_cons (s_tup (is := [2, 3, 4]) (z_var 1 (pv 1)) (pg_tup rfl (pgs_cons (pg_name (i := 2) sc.nd rfl (by first | exact Or.inl rfl | exact Or.inr rfl)) (pgs_cons (pg_name (i := 3) sc.nd rfl (by first | exact Or.inl rfl | exact Or.inr rfl)) (pgs_cons (pg_name (i := 4) sc.nd rfl (by first | exact Or.inl rfl | exact Or.inr rfl)) pgs_nil)))))
  (ss_cons (s_if (PW.pt (w_or (t_not (t_tru (z_blt T.n_isinstance call_isaP dIsa_ok PyProof.Rows.boot_isinstance (a_cons (z_var 4 (pv 4)) (a_cons (z_ty T.n_tuple PyProof.Rows.boot_tuple) a_nil))))) (w_or (t_not (t_tru (z_blt T.n_all (cr_all rfl) dAll_ok PyProof.Rows.boot_all (a_cons (z_comp (own := [("_law_one", 5)]) (g := (.nm 5)) rfl sc.nd (i_seq (z_var 4 (pv 4))) (blkOk_by (sc := defScope (top 29)) (N := N_law_is_crowd) (by first | decide +kernel | rfl)) (fun _ _ _ _ _ => (pg_name (i := 5) sc.nd rfl (by first | exact Or.inl rfl | exact Or.inr rfl))) (fun _ _ _ _ _ => ts_nil) (fun _ _ _ _ _ => (z_call (ok_law_below T) (hr.mono (by decide)) hgd T.g_law_below T.F_law_below.kp T.b_law_below no_out (a_cons (z_var 5 (pv 5)) (a_cons z_int a_nil)))) (by decide)) a_nil)))) (w_or1 (tt_cmp (c_gt hu) (z_var 2 (pv 2)) (z_var 3 (pv 3))))))) (ss_one (s_ret z_bl)) ss_nil)
  (ss_one (s_ret (v_and (e_cmp (c_eq hu) (z_var 4 (pv 4)) (z_call (ok_law_inside T) (hr.mono (by decide)) hgd T.g_law_inside T.F_law_inside.kp T.b_law_inside (passAt (takes_of rfl rfl rfl rfl)) (a_cons (z_var 0 (pv 0)) (a_cons (z_var 2 (pv 2)) (a_cons (z_var 3 (pv 3)) a_nil))))) (v_and1 (e_cmp (c_gt hu) (z_blt T.n_len call_len dLen_ok PySem.boot_len (a_cons (z_var 4 (pv 4)) a_nil)) (z_add (z_sub (z_var 3 (pv 3)) (z_var 2 (pv 2))) z_int)))))))))
abbrev N_law_things : List Str := ["_law_pen_here", "_law_docket_here", "_law_turn", "_law_low", "_law_things_here", "_law_first", "_law_last", "_law_rows", "_law_row", "_law_at", "_law_one"]
theorem sc_law_things : FnScope N_law_things ["_law_pen_here", "_law_docket_here"] (defScope (top 30)) := ⟨rfl, rfl, rfl, by decide +kernel, rfl, by decide +kernel, by decide +kernel⟩
theorem ok_law_things (T : Tx K mg) : FnG P w K mg base 2 T.a_law_things T.fd_law_things ["_law_pen_here", "_law_docket_here"] m_law_things := by
  refine fnG_of (N := N_law_things) (k := 1) T.F_law_things sc_law_things rfl fun cdv A fs s H E hr hgd => ?_
  have hu := un100 hr
  have sc := sc_law_things
  exact (ss_cons (s_parA (i := 3) (j := 4) rfl sc.nd rfl rfl (by decide) rfl rfl (a_cons (z_ix (z_ix (z_var 1 (pv 1)) z_int) z_int) (a_cons (z_lst (a_cons z_non (a_cons z_dict0 (a_cons (z_tup a_nil) (a_cons z_str (a_cons (z_tup (a_cons z_int (a_cons z_int a_nil))) (a_cons (z_tup (a_cons z_int (a_cons z_int (a_cons z_non a_nil)))) (a_cons (z_tup (a_cons z_int (a_cons z_int (a_cons (z_tup a_nil) a_nil)))) (a_cons (z_tup (a_cons z_bl (a_cons z_int (a_cons (z_tup a_nil) a_nil)))) a_nil))))))))) a_nil)) (by rfl))
  (ss_cons (s_for (g := (.nm 2)) (passes_of rfl) rfl (i_range1 T.n_range (a_cons z_int a_nil)) (pg_name (i := 2) sc.nd rfl (by first | exact Or.inl rfl | exact Or.inr rfl)) (ss_cons (s_set (i := 5) sc.nd rfl (by first | exact Or.inl rfl | exact Or.inr rfl) (z_blt T.n_max (call_max2 rfl) dMax2_ok PyProof.Rows.boot_max (a_cons z_int (a_cons (z_add (z_sub (z_var 3 (pv 3)) z_int) (z_call (ok_law_draw T) (hr.mono (by decide)) hgd T.g_law_draw T.F_law_draw.kp T.b_law_draw (passAt (takes_of rfl rfl rfl rfl)) (a_cons (z_var 0 (pv 0)) (a_cons z_int a_nil)))) a_nil))))
  (ss_cons (s_set (i := 6) sc.nd rfl (by first | exact Or.inl rfl | exact Or.inr rfl) (z_blt T.n_min (call_min2 rfl) dMin2_ok PyProof.Rows.boot_min (a_cons z_int (a_cons (z_add (z_var 5 (pv 5)) (z_call (ok_law_draw T) (hr.mono (by decide)) hgd T.g_law_draw T.F_law_draw.kp T.b_law_draw (passAt (takes_of rfl rfl rfl rfl)) (a_cons (z_var 0 (pv 0)) (a_cons z_int a_nil)))) a_nil))))
  (ss_cons (s_parA (i := 8) (j := 9) rfl sc.nd rfl rfl (by decide) rfl rfl (a_cons (z_call (ok_law_inside T) (hr.mono (by decide)) hgd T.g_law_inside T.F_law_inside.kp T.b_law_inside (passAt (takes_of rfl rfl rfl rfl)) (a_cons (z_var 1 (pv 1)) (a_cons (z_var 5 (pv 5)) (a_cons (z_var 6 (pv 6)) a_nil)))) (a_cons (z_call (ok_law_draw T) (hr.mono (by decide)) hgd T.g_law_draw T.F_law_draw.kp T.b_law_draw (passAt (takes_of rfl rfl rfl rfl)) (a_cons (z_var 0 (pv 0)) (a_cons z_int a_nil))) a_nil)) (by rfl))
  (ss_cons (s_set (i := 7) sc.nd rfl (by first | exact Or.inl rfl | exact Or.inr rfl) (z_lstN (a_cons (z_var 8 (pv 8)) (a_cons (z_sl (z_var 8 (pv 8)) (o_some z_int) o_none) (a_cons (z_rev (z_var 8 (pv 8))) (a_cons (z_typ T.n_list call_list_of dList_ok PyProof.Rows.boot_list (a_cons (z_var 8 (pv 8)) a_nil)) (a_cons (z_add (z_var 8 (pv 8)) (z_tup (a_cons (z_var 9 (pv 9)) a_nil))) (a_cons (z_typ T.n_tuple call_tuple_of dTuple_ok PyProof.Rows.boot_tuple (a_cons (z_sortSet T.n_sorted T.n_set (z_add (z_var 8 (pv 8)) (z_tup (a_cons (z_var 9 (pv 9)) a_nil)))) a_nil)) (a_cons (z_tup a_nil) a_nil)))))))))
  (ss_cons (s_expr (z_app (z_var 7 (pv 7)) (a_cons (z_tup (a_cons (z_blt T.n_len call_len dLen_ok PySem.boot_len (a_cons (z_var 1 (pv 1)) a_nil)) a_nil)) a_nil)))
  (ss_one (s_set (i := 4) sc.nd rfl (by first | exact Or.inl rfl | exact Or.inr rfl) (z_add (z_add (z_var 4 (pv 4)) (z_comp (own := [("_law_one", 10)]) (g := (.nm 10)) rfl sc.nd (i_seq (z_var 7 (pv 7))) (blkOk_by (sc := defScope (top 30)) (N := N_law_things) (by first | decide +kernel | rfl)) (fun _ _ _ _ _ => (pg_name (i := 10) sc.nd rfl (by first | exact Or.inl rfl | exact Or.inr rfl))) (fun _ _ _ _ _ => ts_nil) (fun _ _ _ _ _ => (z_tup (a_cons (z_var 5 (pv 5)) (a_cons (z_var 6 (pv 6)) (a_cons (z_var 10 (pv 10)) a_nil))))) (by decide))) (z_lst (a_cons (z_tup (a_cons (z_var 6 (pv 6)) (a_cons (z_var 5 (pv 5)) (a_cons (z_var 8 (pv 8)) a_nil)))) (a_cons (z_lst (a_cons (z_var 5 (pv 5)) (a_cons (z_var 6 (pv 6)) (a_cons (z_var 8 (pv 8)) a_nil)))) (a_cons (z_tup (a_cons (z_var 5 (pv 5)) (a_cons (z_var 6 (pv 6)) a_nil))) a_nil)))))))))))))
  (ss_one (s_ret (z_var 4 (pv 4))))))
abbrev N_law : List Str := ["_law_script", "_law_cell_here", "_law_pen_here", "_law_turn", "_law_docket_here", "_law_due", "_law_thing"]
theorem sc_law : FnScope N_law ["_law_script"] (defScope (top 31)) := ⟨rfl, rfl, rfl, by decide +kernel, rfl, by decide +kernel, by decide +kernel⟩
theorem ok_law (T : Tx K mg) : FnG P w K mg base 8 T.a_law T.fd_law ["_law_script"] m_law := by
  refine fnG_of (N := N_law) (k := 7) T.F_law sc_law rfl fun cdv A fs s H E hr hgd => ?_
  have hu := un100 hr
  have sc := sc_law
  exact (ss_cons (s_for (g := (.nm 1)) (passes_of rfl) rfl (i_seq (z_add (z_lst (a_cons (z_call (ok_law_cell T) (hr.mono (by decide)) hgd T.g_law_cell T.F_law_cell.kp T.b_law_cell (passAt (takes_of rfl rfl rfl rfl)) (a_cons (z_var 0 (pv 0)) (a_cons z_int a_nil))) a_nil)) (z_sl (z_var 0 (pv 0)) (o_some z_int) (o_some z_int)))) (pg_name (i := 1) sc.nd rfl (by first | exact Or.inl rfl | exact Or.inr rfl)) (ss_cons (s_set (i := 2) sc.nd rfl (by first | exact Or.inl rfl | exact Or.inr rfl) (z_call (ok_law_pen T) (hr.mono (by decide)) hgd T.g_law_pen T.F_law_pen.kp T.b_law_pen (passAt (takes_of rfl rfl rfl rfl)) (a_cons (z_var 1 (pv 1)) a_nil)))
  (ss_one (s_for (g := (.nm 3)) (passes_of rfl) rfl (i_range1 T.n_range (a_cons z_int a_nil)) (pg_name (i := 3) sc.nd rfl (by first | exact Or.inl rfl | exact Or.inr rfl)) (ss_cons (s_set (i := 4) sc.nd rfl (by first | exact Or.inl rfl | exact Or.inr rfl) (z_call (ok_law_docket T) (hr.mono (by decide)) hgd T.g_law_docket T.F_law_docket.kp T.b_law_docket (passAt (takes_of rfl rfl rfl rfl)) (a_cons (z_var 2 (pv 2)) (a_cons (z_add z_int (z_var 3 (pv 3))) (a_cons (z_ix (z_lst (a_cons z_int (a_cons z_int (a_cons z_int (a_cons z_int a_nil))))) (z_call (ok_law_draw T) (hr.mono (by decide)) hgd T.g_law_draw T.F_law_draw.kp T.b_law_draw (passAt (takes_of rfl rfl rfl rfl)) (a_cons (z_var 2 (pv 2)) (a_cons z_int a_nil)))) a_nil)))))
  (ss_cons (s_set (i := 5) sc.nd rfl (by first | exact Or.inl rfl | exact Or.inr rfl) (z_call (ok_law_first_crowd T) (hr.mono (by decide)) hgd T.g_law_first_crowd T.F_law_first_crowd.kp T.b_law_first_crowd (passAt (takes_of rfl rfl rfl rfl)) (a_cons (z_var 4 (pv 4)) a_nil)))
  (ss_cons (s_if (PW.pt (w_or (tt_cmp (c_ne hu) (z_blt T.n_repr (call_reprP hu hgd) dRepr_ok PyProof.Rows.boot_repr (a_cons (z_call (ok_crowd_of T) (hr.mono (by decide)) hgd T.g_crowd_of T.F_crowd_of.kp T.b_crowd_of (passAt (takes_of rfl rfl rfl rfl)) (a_cons (z_var 4 (pv 4)) a_nil)) a_nil)) (z_blt T.n_repr (call_reprP hu hgd) dRepr_ok PyProof.Rows.boot_repr (a_cons (z_var 5 (pv 5)) a_nil))) (w_or1 (PW.pt (w_and (tt_cmp (c_lt hu) (z_blt T.n_len call_len dLen_ok PySem.boot_len (a_cons (z_var 4 (pv 4)) a_nil)) z_int) (w_and1 (tt_cmp (c_ne hu) (e_cmp c_is (z_var 5 (pv 5)) z_non) (e_cmp (c_ne hu) (z_call (ok_law_orders T) (hr.mono (by decide)) hgd T.g_law_orders T.F_law_orders.kp T.b_law_orders (passAt (takes_of rfl rfl rfl rfl)) (a_cons (z_var 4 (pv 4)) a_nil)) (z_lst a_nil))))))))) (ss_one (s_ret z_bl)) ss_nil)
  (ss_one (s_for (g := (.nm 6)) (passes_of rfl) rfl (i_seq (z_add (z_call (ok_law_things T) (hr.mono (by decide)) hgd T.g_law_things T.F_law_things.kp T.b_law_things (passAt (takes_of rfl rfl rfl rfl)) (a_cons (z_var 2 (pv 2)) (a_cons (z_var 4 (pv 4)) a_nil))) (z_lst (a_cons (z_var 5 (pv 5)) a_nil)))) (pg_name (i := 6) sc.nd rfl (by first | exact Or.inl rfl | exact Or.inr rfl)) (ss_one (s_if (tt_cmp (c_ne hu) (z_blt T.n_repr (call_reprP hu hgd) dRepr_ok PyProof.Rows.boot_repr (a_cons (z_call (ok_crowd_holds T) (hr.mono (by decide)) hgd T.g_crowd_holds T.F_crowd_holds.kp T.b_crowd_holds (passAt (takes_of rfl rfl rfl rfl)) (a_cons (z_var 4 (pv 4)) (a_cons (z_var 6 (pv 6)) a_nil))) a_nil)) (z_blt T.n_repr (call_reprP hu hgd) dRepr_ok PyProof.Rows.boot_repr (a_cons (z_call (ok_law_is_crowd T) (hr.mono (by decide)) hgd T.g_law_is_crowd T.F_law_is_crowd.kp T.b_law_is_crowd (passAt (takes_of rfl rfl rfl rfl)) (a_cons (z_var 4 (pv 4)) (a_cons (z_var 6 (pv 6)) a_nil))) a_nil))) (ss_one (s_ret z_bl)) ss_nil)))))))))))
  (ss_one (s_ret z_bl)))
end
end Lk74

namespace Lk74
open PySem L2 Z
theorem draw_eq : m_law_draw = drawZ := rfl
theorem within_ok {d : D} (h : Has d) (lo hi : Int) (S : Sto) : m_is_within [d, .int lo, .int hi] S = .ok (.bl (num d lo hi)) S := by
  obtain ⟨p, h⟩ := h
  refine wp_eq ?_
  unfold m_is_within
  simp [isa_int h, isa_bool h]
  cases d <;> simp [isIntD, isBlD, num]
  rename_i i
  by_cases q : lo ≤ i <;> simp [q] <;> omega
theorem upto_ok {d : D} (h : Has d) (n : Int) (S : Sto) : m_is_upto [d, .int n] S = .ok (.bl (num d 0 (n - 1))) S := by
  refine wp_eq ?_
  unfold m_is_upto
  simp [within_ok h]
theorem below_ok {d : D} (h : Has d) (n : Int) (S : Sto) : m_law_below [d, .int n] S = .ok (.bl (num d 0 (n - 1))) S := by
  obtain ⟨p, h⟩ := h
  refine wp_eq ?_
  unfold m_law_below
  simp [isa_int h, isa_bool h]
  cases d <;> simp [isIntD, isBlD, num]
  rename_i i
  by_cases q : 0 ≤ i <;> simp [q] <;> omega
/-! persons -/
def upB (ns : List Int) : Bool := decide (ns.Pairwise (· < ·))
def prs : D → Bool
  | .tup ds => ds.all (fun d => num d 0 5) && upB (ds.map iv)
  | _ => false
theorem ints_all {ds : List D} (h : ds.all (fun d => num d 0 5) = true) : ds = (ds.map iv).map D.int := by
  induction ds with
  | nil => rfl
  | cons d r ih =>
    simp only [List.all_cons, Bool.and_eq_true] at h
    obtain ⟨i, rfl, _⟩ := num_int h.1
    simp only [List.map_cons, iv]
    rw [← ih h.2]
def cmp1 (x : D) : Bool := match x with | .tup [a, b] => decide (iv a < iv b) | _ => false
theorem cmp_up : ∀ ns : List Int, (List.zipWith (fun a b => D.tup [a, b]) (ns.map D.int) ((ns.map D.int).drop 1)).all cmp1 = upB ns
  | [] => rfl
  | [a] => by simp [upB]
  | a :: b :: r => by
    have ih := cmp_up (b :: r)
    have e : (List.zipWith (fun a b => D.tup [a, b]) ((a :: b :: r).map D.int) (((a :: b :: r).map D.int).drop 1)).all cmp1 = (decide (a < b) && (List.zipWith (fun a b => D.tup [a, b]) ((b :: r).map D.int) (((b :: r).map D.int).drop 1)).all cmp1) := rfl
    rw [e, ih]
    unfold upB
    rw [← Bool.decide_and]
    apply decide_eq_decide.mpr
    rw [List.pairwise_cons (l := b :: r)]
    constructor
    · rintro ⟨h1, h2⟩
      refine ⟨fun z hz => ?_, h2⟩
      rcases List.mem_cons.mp hz with rfl | hz
      · exact h1
      · have := (List.pairwise_cons.mp h2).1 z hz; omega
    · rintro ⟨h1, h2⟩
      exact ⟨h1 b (by simp), h2⟩
theorem persons_ok {d : D} (h : Has d) (hl : ∀ ds, d = .tup ds → ds.length ≤ 16) (S : Sto) : m_are_persons [d] S = .ok (.bl (prs d)) S := by
  obtain ⟨p, hp⟩ := h
  refine wp_eq ?_
  unfold m_are_persons
  simp [isa_tup hp]
  cases d
  case tup ds =>
    have hlen := hl ds rfl
    have hz1 : ds.length ≤ sizeLine := by rw [hz]; omega
    have hh := has_tup ⟨p, hp⟩
    have e1 : lcL [] (Tgt.nm 1) [1] tYesM (mCall m_is_upto (aCons (mVar 1) (aCons (mC (D.int 6)) aNil))) ds [some (D.tup ds), none, none] S = .ok (ds.map fun d => D.bl (num d 0 5)) S := lc_map (fun d => .bl (num d 0 5)) ds fun d hd => ⟨_, rfl, by simp [wipeT, upto_ok (hh d hd)]⟩
    cases q : ds.all (fun d => num d 0 5) with
    | false =>
      have e : prs (.tup ds) = false := by simp only [prs, q, Bool.false_and]
      simp [isTupD, hz1, e1, all_map, q, e]
    | true =>
      have ei := ints_all q
      have e : prs (.tup ds) = (List.zipWith (fun a b => D.tup [a, b]) ds (cutD ds (some 1) none)).all cmp1 := by
        simp only [prs, q, Bool.true_and, cutD1]
        rw [← cmp_up, ← ei]
      have ezip : zipOf [D.tup ds, D.tup (cutD ds (some 1) none)] S = some ⟨List.zipWith (fun a b => .tup [a, b]) ds (cutD ds (some 1) none), []⟩ := rfl
      have el : lcL [] (Tgt.tp [1, 2]) [1, 2] tYesM (mBin dLt (mVar 1) (mVar 2)) (List.zipWith (fun a b => D.tup [a, b]) ds (cutD ds (some 1) none)) [some (D.tup ds), none, none] S = .ok (_) S := lc_map (fun x => .bl (cmp1 x)) _ fun x hx => by
        obtain ⟨a, b, rfl, ha, hb⟩ := zip_mem hx
        obtain ⟨i, rfl, _⟩ := num_int (List.all_eq_true.mp q a ha)
        obtain ⟨j, rfl, _⟩ := num_int (List.all_eq_true.mp q b (cutD_mem hb))
        exact ⟨[some (D.tup ds), some (.int i), some (.int j)], rfl, by simp [cmp1, iv]; rfl⟩
      have hl : (List.zipWith (fun a b => D.tup [a, b]) ds (cutD ds (some 1) none)).length ≤ sizeLine := by rw [List.length_zipWith]; omega
      generalize List.zipWith (fun a b => D.tup [a, b]) ds (cutD ds (some 1) none) = zs at *
      simp [isTupD, hz1, e1, all_map, q, e, ezip, el, hl]
  all_goals simp [isTupD, prs]
theorem intsOf_map : ∀ ns : List Int, intsOf (ns.map D.int) = some ns
  | [] => rfl
  | n :: ns => by simp [intsOf, intsOf_map ns]
theorem toPy_ints : ∀ ns : List Int, toPyDs (ns.map D.int) = some (ns.map PyData.int)
  | [] => rfl
  | n :: ns => by simp [toPyDs, toPyD, toPy_ints ns]
theorem plain_ints : ∀ ns : List Int, PyData.plainAll (ns.map PyData.int) = true
  | [] => rfl
  | n :: ns => by simp [PyData.plainAll, PyData.plain, plain_ints ns]
theorem depth_ints : ∀ ns : List Int, PyData.depthAll (ns.map PyData.int) = 0
  | [] => rfl
  | n :: ns => by simp [PyData.depthAll, PyData.depth, depth_ints ns]
theorem eqv_ints : ∀ ns ms : List Int, PyData.eqvAll (ns.map PyData.int) (ms.map PyData.int) = decide (ns = ms)
  | [], [] => by simp [PyData.eqvAll]
  | [], m :: ms => by simp [PyData.eqvAll]
  | n :: ns, [] => by simp [PyData.eqvAll]
  | n :: ns, m :: ms => by
    simp only [List.map_cons, PyData.eqvAll, PyData.eqv, eqv_ints ns ms, List.cons.injEq]
    by_cases h : n = m <;> simp [h]
/-! hearings, dockets -/
def her : D → Bool
  | .tup [a, b, c] => num a 0 60 && num b 0 60 && (decide (iv a ≤ iv b) && decide (iv b ≤ iv a + 9)) && prs c
  | _ => false
theorem her_no {ds : List D} (h : ds.length ≠ 3) : her (.tup ds) = false := by
  unfold her
  split
  · rename_i e; cases e; exact absurd rfl h
  · rfl
/-- the rows within are short -/
def Short (d : D) : Prop := ∀ ds, d = .tup ds → ds.length ≤ 16
theorem hearing_ok {d : D} (h : Has d) (hs : ∀ ds, d = .tup ds → ∀ e ∈ ds, Short e) (S : Sto) : m_is_hearing [d] S = .ok (.bl (her d)) S := by
  obtain ⟨p, hp⟩ := h
  refine wp_eq ?_
  unfold m_is_hearing
  simp [isa_tup hp]
  cases d
  case tup ds =>
    simp [isTupD]
    by_cases q : ds.length = 3
    · obtain ⟨a, b, c, rfl⟩ := three q
      have hh := has_tup ⟨p, hp⟩
      have ha := hh a (by simp)
      have hb := hh b (by simp)
      have hc := hh c (by simp)
      have sc : Short c := hs _ rfl c (by simp)
      simp [at0, at1, at2, upto_ok ha, upto_ok hb, persons_ok hc sc, her]
      cases na : num a 0 60 <;> simp
      cases nb : num b 0 60 <;> simp
      obtain ⟨i, rfl, _, _⟩ := num_int na
      obtain ⟨j, rfl, _, _⟩ := num_int nb
      by_cases g : i ≤ j <;> by_cases g2 : j ≤ i + 9 <;> simp [iv, g, g2]
    · have q2 : (ds.length : Int) ≠ 3 := by omega
      simp [q2, her_no q]
  all_goals simp [isTupD, her]
def dck : D → Bool
  | .tup ds => decide (1 ≤ ds.length) && decide (ds.length ≤ 6) && ds.all her
  | _ => false
def Short2 (d : D) : Prop := ∀ ds, d = .tup ds → ∀ e ∈ ds, ∀ es, e = .tup es → ∀ f ∈ es, Short f
theorem docket_ok {d : D} (h : Has d) (hs : Short2 d) (S : Sto) : m_is_docket [d] S = .ok (.bl (dck d)) S := by
  obtain ⟨p, hp⟩ := h
  refine wp_eq ?_
  unfold m_is_docket
  simp [isa_tup hp]
  cases d
  case tup ds =>
    have hh := has_tup ⟨p, hp⟩
    have e1 : lcL [] (Tgt.nm 1) [1] tYesM (mCall m_is_hearing (aCons (mVar 1) aNil)) ds [some (D.tup ds), none] S = .ok (ds.map fun d => D.bl (her d)) S := lc_map (fun d => .bl (her d)) ds fun d hd => ⟨_, rfl, by simp [wipeT, hearing_ok (hh d hd) (hs ds rfl d hd)]⟩
    by_cases q1 : 1 ≤ ds.length
    · have z1 : (1 : Int) ≤ ds.length := by omega
      by_cases q2 : ds.length ≤ 6
      · have z2 : (ds.length : Int) ≤ 6 := by omega
        have z3 : ds.length ≤ sizeLine := by rw [hz]; omega
        simp [isTupD, z1, z2, z3, e1, all_map, dck, q1, q2]
      · have z2 : ¬ (ds.length : Int) ≤ 6 := by omega
        simp [isTupD, z1, z2, dck, q2]
    · have z1 : ¬ (1 : Int) ≤ ds.length := by omega
      simp [isTupD, z1, dck, q1]
  all_goals simp [isTupD, dck]
theorem pen_wp {c : Int} {S : Sto} {Q : D → Sto → Prop} (k : ∀ S', Pen S.length S' → Q (.loc S.length) S') : wpR (m_law_pen [.int c] S) Q := by
  unfold m_law_pen
  simp
  exact ⟨by decide, k _ ⟨_, _, by simp; exact ⟨rfl, rfl⟩⟩⟩
theorem cell_wp {cs : List Int} {n : Int} {S : Sto} (h0 : 0 ≤ n) {Q : D → Sto → Prop} (k : ∀ c : Int, Q (.int c) S) : wpR (m_law_cell [.scr (cs.map D.int), .int n] S) Q := by
  unfold m_law_cell
  simp
  refine ⟨fun h => ?_, fun _ => k 0⟩
  obtain ⟨d, h1, h2, _⟩ := atI_mem (ds := cs.map D.int) h0 (by simpa using h)
  obtain ⟨c, _, rfl⟩ := List.mem_map.mp h2
  exact ⟨_, h1, k c⟩
theorem insU_len {x : Int} : ∀ {l : List Int}, (insU x l).length ≤ l.length + 1
  | [] => by simp [insU]
  | y :: ys => by
    unfold insU
    split
    · simp
    · split
      · simp
      · have := insU_len (x := x) (l := ys); simp; omega
theorem sortSet_len : ∀ {l : List Int}, (sortSet l).length ≤ l.length
  | [] => Nat.le_refl _
  | x :: xs => by
    have h1 := insU_len (x := x) (l := sortSet xs)
    have h2 := sortSet_len (l := xs)
    simp only [sortSet, List.length_cons]
    omega

/-! dockets drawn -/
def Prs (ps : List Int) : Prop := ps.length ≤ 3 ∧ ps.Pairwise (· < ·) ∧ ∀ i ∈ ps, 0 ≤ i ∧ i < 6
def Hear (d : D) : Prop := ∃ (i j : Int) (ps : List Int), d = .tup [.int i, .int j, .tup (ps.map D.int)] ∧ 0 ≤ i ∧ i ≤ j ∧ j ≤ 60 ∧ j < i + 5 ∧ Prs ps
theorem ints_ex : ∀ {ys : List D}, (∀ d ∈ ys, ∃ i : Int, d = .int i ∧ 0 ≤ i ∧ i < 6) → ∃ ns : List Int, intsOf ys = some ns ∧ ns.length = ys.length ∧ ∀ z ∈ ns, 0 ≤ z ∧ z < 6
  | [], _ => ⟨[], rfl, rfl, by simp⟩
  | y :: ys, h => by
    obtain ⟨i, rfl, h1, h2⟩ := h y (by simp)
    obtain ⟨ns, e1, e2, e3⟩ := ints_ex (ys := ys) fun d hd => h d (by simp [hd])
    refine ⟨i :: ns, by simp [intsOf, e1], by simp [e2], fun z hz => ?_⟩
    rcases List.mem_cons.mp hz with rfl | hz
    · exact ⟨h1, h2⟩
    · exact e3 z hz
theorem persons_wp {l : Nat} {S : Sto} {Q : D → Sto → Prop} (hp : Pen l S) (k : ∀ ps S', Prs ps → Pen l S' → Fr l S S' → Q (.tup (ps.map D.int)) S') : wpR (m_law_persons [.loc l] S) Q := by
  unfold m_law_persons
  simp [draw_eq, hz]
  refine draw_wp hp (by omega) (by omega) fun r1 S1 a1 b1 p1 f1 => ?_
  simp [range1]
  refine ⟨_, ⟨by omega, rfl⟩, (wpR_guard _ _ _).mpr ⟨by simp; omega, ?_⟩⟩
  rw [wpR_bind]
  refine wpR_imp (lc_wp (I := fun S' => Pen l S' ∧ Fr l S S') (P := fun d => ∃ i : Int, d = .int i ∧ 0 ≤ i ∧ i < 6) _ ?_ S1 ⟨p1, f1⟩) fun ys S2 ⟨⟨p2, f2⟩, hl, hy⟩ => ?_
  · rintro d hd S3 ⟨p3, f3⟩
    refine ⟨_, rfl, ?_⟩
    simp [tYesM, wipeT, hz]
    refine draw_wp p3 (by omega) (by omega) fun r4 S4 a4 b4 p4 f4 => ?_
    simp only [x_ixL, wpR_ofO]
    refine pick (fun d => ∃ w : Int, d = .int w ∧ 0 < w ∧ w ≤ 6) (by simp) a4 (by simpa using b4) ?_
    rintro _ ⟨w, rfl, w0, w1⟩
    exact draw_wp p4 (by omega) (by omega) fun r5 S5 a5 b5 p5 f5 => ⟨⟨p5, (f3.trans f4).trans f5⟩, r5, rfl, a5, by omega⟩
  · obtain ⟨ns, e1, e2, e3⟩ := ints_ex hy
    have hl' : ys.length ≤ 3 := by simp at hl; omega
    have h64 : ns.length < 64 := by omega
    simp [dSortSet, seqR, listR, e1, h64]
    refine k _ _ ⟨?_, sortSet_up, ?_⟩ p2 f2
    · have := sortSet_len (l := ns); omega
    · intro z hz'
      exact e3 z (sortSet_mem.mp hz')
def DInv (l kk : Nat) (many wide base close : Int) (es : List D) (τ : Tau) (S' : Sto) : Prop := ∃ (x y : Option D) (rows : List D), τ = [some (.loc l), some (.int many), some (.int wide), x, some (.int base), some (.int close), some (.loc kk), y] ∧ Pen l S' ∧ S'[kk]? = some (.lst rows) ∧ (∀ d ∈ rows, Hear d) ∧ rows.length + es.length = many.toNat
theorem docket_wp {l : Nat} {S : Sto} {many wide : Int} {Q : D → Sto → Prop} (hp : Pen l S) (m0 : 1 ≤ many) (m1 : many ≤ 6) (w0 : 0 < wide) (w1 : wide ≤ 5) (k : ∀ rows S', rows.length = many.toNat → (∀ d ∈ rows, Hear d) → Pen l S' → Q (.tup rows) S') : wpR (m_law_docket [.loc l, .int many, .int wide] S) Q := by
  unfold m_law_docket
  simp only [draw_eq, x_run, List.length_cons, List.length_nil, true_and, wpS_seq]
  simp [hz]
  refine draw_wp hp (by omega) (by omega) fun base S1 a1 b1 p1 f1 => ?_
  refine draw_wp p1 (by omega) (by omega) fun r2 S2 a2 b2 p2 f2 => ?_
  simp [setAll, range1]
  refine ⟨_, ⟨by omega, rfl⟩, ?_⟩
  have hk : S2.length ≠ l := fun e => by have := p2.lt; omega
  have hs : (S2 ++ [C.lst []])[S2.length]? = some (.lst []) := by simp
  have p3 : Pen l (S2 ++ [C.lst []]) := p2.push
  generalize S2 ++ [C.lst []] = S3 at hs p3
  generalize S2.length = kk at hk hs
  refine for_wp (DInv l kk many wide base (1 + r2)) ?_ ?_ _ _ _ ⟨_, _, [], rfl, p3, hs, by simp, by simp⟩
  · rintro d es τ S5 ⟨x, y, rows, rfl, p5, hs5, hr, hn⟩
    refine ⟨_, rfl, ?_⟩
    simp
    refine draw_wp p5 (by omega) (by omega) fun r6 S6 a6 b6 p6 f6 => ?_
    have hs6 : S6[kk]? = some (.lst rows) := by rw [f6.eq _ hk]; exact hs5
    simp [isTy, hs6]
    refine draw_wp p6 (by omega) (by omega) fun r7 S7 a7 b7 p7 f7 => ?_
    have hs7 : S7[kk]? = some (.lst rows) := by rw [f7.eq _ hk]; exact hs6
    simp
    refine persons_wp p7 fun ps S8 hps p8 f8 => ?_
    have hs8 : S8[kk]? = some (.lst rows) := by rw [f8.eq _ hk]; exact hs7
    have hl8 := (List.getElem?_eq_some_iff.mp hs8).1
    have hn' : rows.length < 16777216 := by simp at hn; omega
    simp [hz, dAppend, hs8, hn']
    refine ⟨_, _, _, rfl, ?_, List.getElem?_set_self hl8, ?_, by simp at hn ⊢; omega⟩
    · obtain ⟨c, d, e⟩ := p8
      exact ⟨c, d, by rw [List.getElem?_set_ne hk]; exact e⟩
    · intro d hd
      rcases List.mem_append.mp hd with hd | hd
      · exact hr d hd
      · rw [List.mem_singleton.mp hd]
        refine ⟨_, _, ps, rfl, by omega, ?_, ?_, ?_, hps⟩ <;> split <;> omega
  · rintro τ S5 ⟨x, y, rows, rfl, p5, hs5, hr, hn⟩
    simp [dTuple, listR, hs5]
    simp at hn
    exact k rows _ hn hr p5
end Lk74

namespace Lk74
open PySem L2 Z
open Hall (cnt)
theorem lc_fm {g : Tgt} {vs : List Nat} {tm : MT} {e : ME} {τ : Tau} {S : Sto} (t : D → Bool) (f : D → D) : ∀ (ds : List D), (∀ d ∈ ds, ∃ τ1, bindT g d (wipeT τ vs) = some τ1 ∧ tm τ1 S = .ok (t d) S ∧ e τ1 S = .ok (f d) S) → lcL [] g vs tm e ds τ S = .ok ((ds.filter t).map f) S
  | [], _ => by
    unfold lcL
    rw [keepB_nil, if_pos rfl]
    rfl
  | d :: ds, step => by
    unfold lcL
    rw [keepB_nil, if_pos rfl]
    obtain ⟨τ1, e1, w1, w2⟩ := step d (by simp)
    have rest := lc_fm t f ds (fun d hd => step d (by simp [hd]))
    rw [e1]
    show (noEx (tm τ1 S)).bind _ = _
    rw [w1, List.filter_cons]
    cases q : t d
    · simp [rest]
    · simp [w2, rest]
def spn : D → Hall.Sp
  | .tup [.int i, .int j, _] => (i, j)
  | _ => (0, 0)
def tst (f l : Int) : D → Bool
  | .tup [_, d] => Hall.inB f l (spn d)
  | _ => false
def idx : D → Int
  | .tup [.int k, _] => k
  | _ => 0
def insI (rows : List D) (f l : Int) : List Int := ((enumFrom 0 rows).filter (tst f l)).map idx
theorem enum_mem : ∀ {n : Nat} {ds : List D} {x : D}, x ∈ enumFrom n ds → ∃ (k : Nat) (d : D), x = .tup [.int (k : Int), d] ∧ d ∈ ds ∧ n ≤ k ∧ k < n + ds.length
  | n, [], x, h => by simp [enumFrom] at h
  | n, d :: ds, x, h => by
    simp only [enumFrom] at h
    rcases List.mem_cons.mp h with rfl | h
    · exact ⟨n, d, rfl, by simp, Nat.le_refl _, by simp⟩
    · obtain ⟨k, e, h1, h2, h3, h4⟩ := enum_mem h
      exact ⟨k, e, h1, by simp [h2], by omega, by simp; omega⟩
theorem ins_cnt {rows : List D} {f l : Int} : (insI rows f l).length = cnt (rows.map spn) f l := by
  unfold insI cnt
  rw [List.length_map]
  generalize 0 = n
  induction rows generalizing n with
  | nil => rfl
  | cons d r ih =>
    simp only [enumFrom, List.map_cons, List.filter_cons]
    have := ih (n + 1)
    show (if Hall.inB f l (spn d) = true then _ else _ : List D).length = _
    by_cases q : Hall.inB f l (spn d) = true <;> simp [q, this]
theorem ins_lt {rows : List D} {f l z : Int} (h : z ∈ insI rows f l) : 0 ≤ z ∧ z < rows.length := by
  obtain ⟨x, hx, rfl⟩ := List.mem_map.mp h
  obtain ⟨k, d, rfl, h1, h2, h3⟩ := enum_mem (List.mem_filter.mp hx).1
  show 0 ≤ (k : Int) ∧ (k : Int) < _
  omega
theorem ins_len {rows : List D} {f l : Int} : (insI rows f l).length ≤ rows.length := by
  rw [ins_cnt]
  unfold cnt
  exact Nat.le_trans (List.length_filter_le _ _) (by simp)
theorem hear_at {d : D} (h : Hear d) : ∃ i j c, d = .tup [.int i, .int j, c] ∧ spn d = (i, j) := by
  obtain ⟨i, j, ps, rfl, _⟩ := h
  exact ⟨i, j, _, rfl, rfl⟩
theorem within_in {rows : List D} (hr : ∀ d ∈ rows, Hear d) (hl : rows.length ≤ 6) (f l : Int) (S : Sto) : m_within [.tup rows, .int f, .int l] S = .ok (.tup ((insI rows f l).map D.int)) S := by
  refine wp_eq ?_
  unfold m_within
  have e : lcL [] (.tp [3, 4]) [3, 4] (mAnd (mB (mBin dGe (mBin dIx (mVar 4) (mC (.int 0))) (mVar 1))) (mB (mBin dLe (mBin dIx (mVar 4) (mC (.int 1))) (mVar 2)))) (mVar 3) (enumFrom 0 rows) [some (.tup rows), some (.int f), some (.int l), none, none] S = .ok (((enumFrom 0 rows).filter (tst f l)).map fun x => .int (idx x)) S := lc_fm (tst f l) (fun x => .int (idx x)) _ fun x hx => by
    obtain ⟨k, d, rfl, hd, _⟩ := enum_mem hx
    obtain ⟨i, j, c, rfl, es⟩ := hear_at (hr d hd)
    refine ⟨_, rfl, ?_, ?_⟩
    · refine wp_eq ?_
      simp [at0, at1, tst, es, Hall.inB, wipeT]
      by_cases q : f ≤ i <;> simp [q] <;> omega
    · simp [idx, wipeT]
  have hz1 : (enumFrom 0 rows).length ≤ sizeLine := by rw [enumFrom_len, hz]; omega
  simp [enumT, hz1, e, insI]
theorem inside_in {rows : List D} (hr : ∀ d ∈ rows, Hear d) (hl : rows.length ≤ 6) (f l : Int) (S : Sto) : m_law_inside [.tup rows, .int f, .int l] S = .ok (.tup ((insI rows f l).map D.int)) S := by
  refine wp_eq ?_
  unfold m_law_inside
  have e : lcL [] (.tp [3, 4]) [3, 4] (mAnd (mB (mBin dLe (mVar 1) (mBin dIx (mVar 4) (mC (.int 0))))) (mB (mBin dLe (mBin dIx (mVar 4) (mC (.int 1))) (mVar 2)))) (mVar 3) (enumFrom 0 rows) [some (.tup rows), some (.int f), some (.int l), none, none] S = .ok (((enumFrom 0 rows).filter (tst f l)).map fun x => .int (idx x)) S := lc_fm (tst f l) (fun x => .int (idx x)) _ fun x hx => by
    obtain ⟨k, d, rfl, hd, _⟩ := enum_mem hx
    obtain ⟨i, j, c, rfl, es⟩ := hear_at (hr d hd)
    refine ⟨_, rfl, ?_, ?_⟩
    · refine wp_eq ?_
      simp [at0, at1, tst, es, Hall.inB, wipeT]
      by_cases q : f ≤ i <;> simp [q] <;> omega
    · simp [idx, wipeT]
  have hz1 : (enumFrom 0 rows).length ≤ sizeLine := by rw [enumFrom_len, hz]; omega
  simp [enumT, hz1, e, insI]
/-! the first crowd -/
def fcI (rows : List D) (f : Int) (ls : List D) : Option D := ls.findSome? fun x => match x with
  | .int l => if l - f + 1 < (insI rows f l).length then some (.tup [.int f, .int l, .tup ((insI rows f l).map D.int)]) else none
  | _ => none
def r2 (f : Int) : List D := (List.range (61 - f).toNat).map fun (k : Nat) => .int (f + (k : Int))
def fcO (rows : List D) (fs : List D) : Option D := fs.findSome? fun x => match x with
  | .int f => fcI rows f (r2 f)
  | _ => none
def r1 : List D := (List.range 61).map fun (k : Nat) => .int (0 + (k : Int))
def fc (rows : List D) : D := (fcO rows r1).getD .non
theorem fcO_cons {rows es : List D} {f : Int} : fcO rows (.int f :: es) = match fcI rows f (r2 f) with | some x => some x | none => fcO rows es := by
  unfold fcO
  rw [List.findSome?_cons]
  dsimp only
  cases fcI rows f (r2 f) <;> rfl
theorem fcI_cons {rows ls : List D} {f l : Int} : fcI rows f (.int l :: ls) = match (if l - f + 1 < (insI rows f l).length then some (D.tup [.int f, .int l, .tup ((insI rows f l).map D.int)]) else none) with | some x => some x | none => fcI rows f ls := by
  unfold fcI
  rw [List.findSome?_cons]
  dsimp only
  by_cases h : l - f + 1 < (insI rows f l).length <;> simp only [h, if_true, if_false]
theorem range61 (S : Sto) : range1 [.int 61] S = some ⟨r1, []⟩ := by
  show (if -(2 ^ 62) ≤ (61 : Int) ∧ (61 : Int) < 2 ^ 62 then some _ else none) = _
  rw [if_pos (by decide)]
  unfold r1
  rw [show Int.toNat 61 = 61 from rfl]
theorem r1_mem {d : D} (h : d ∈ r1) : ∃ k : Int, d = .int k ∧ 0 ≤ k ∧ k < 61 := by
  unfold r1 at h
  obtain ⟨k, hk, rfl⟩ := List.mem_map.mp h
  have := List.mem_range.mp hk
  exact ⟨(k : Int), by rw [Int.zero_add], by omega, by omega⟩
theorem range2_pos {i j : Int} {S : Sto} (h : -(2 ^ 62) ≤ i ∧ i < 2 ^ 62 ∧ -(2 ^ 62) ≤ j ∧ j < 2 ^ 62) : range2 [.int i, .int j] S = some ⟨(List.range (j - i).toNat).map fun (k : Nat) => .int (i + (k : Int)), []⟩ := if_pos h
theorem range2_61 {f : Int} (h : 0 ≤ f ∧ f < 61) (S : Sto) : range2 [.int f, .int 61] S = some ⟨r2 f, []⟩ := by
  exact range2_pos ⟨by omega, by omega, by omega, by omega⟩
theorem fcO_nil {rows : List D} : fcO rows [] = none := rfl
theorem fc_some {rows : List D} {x : D} (h : fcO rows r1 = some x) : x = fc rows := by
  unfold fc
  rw [h]
  rfl
theorem fc_none {rows : List D} (h : fcO rows r1 = none) : D.non = fc rows := by
  unfold fc
  rw [h]
  rfl
theorem r1_eq : r1 = (List.range 61).map fun (k : Nat) => .int (k : Int) := by
  unfold r1
  simp only [Int.zero_add]
def IInv (rows : List D) (f : Int) (r : Option D) (S : Sto) (P : Tau → Prop) (ls : List D) (τ : Tau) (S' : Sto) : Prop := S' = S ∧ (∀ d ∈ ls, ∃ l : Int, d = .int l) ∧ P τ ∧ fcI rows f ls = r
def OInv (rows : List D) (r : Option D) (S : Sto) (P : Tau → Prop) (es : List D) (τ : Tau) (S' : Sto) : Prop := S' = S ∧ (∀ d ∈ es, ∃ k : Int, d = .int k ∧ 0 ≤ k ∧ k < 61) ∧ P τ ∧ fcO rows es = r
theorem fcI_some {rows ls : List D} {f l : Int} {r : Option D} (h : fcI rows f (.int l :: ls) = r) (g : l - f + 1 < (insI rows f l).length) : r = some (.tup [.int f, .int l, .tup ((insI rows f l).map D.int)]) := by
  rw [fcI_cons, if_pos g] at h
  exact h.symm
theorem fcI_none {rows ls : List D} {f l : Int} {r : Option D} (h : fcI rows f (.int l :: ls) = r) (g : ¬ l - f + 1 < (insI rows f l).length) : fcI rows f ls = r := by
  rw [fcI_cons, if_neg g] at h
  exact h
theorem fcO_some {rows es : List D} {f : Int} {r : Option D} {x : D} (h : fcO rows (.int f :: es) = r) (g : fcI rows f (r2 f) = some x) : r = some x := by
  rw [fcO_cons, g] at h
  exact h.symm
theorem fcO_none {rows es : List D} {f : Int} {r : Option D} (h : fcO rows (.int f :: es) = r) (g : fcI rows f (r2 f) = none) : fcO rows es = r := by
  rw [fcO_cons, g] at h
  exact h
theorem r2_mem {f : Int} {d : D} (h : d ∈ r2 f) : ∃ l : Int, d = .int l := by
  unfold r2 at h
  obtain ⟨k, _, rfl⟩ := List.mem_map.mp h
  exact ⟨_, rfl⟩
theorem least_in {rows : List D} (hr : ∀ d ∈ rows, Hear d) (hl : rows.length ≤ 6) (S : Sto) : m_least_crowd [.tup rows] S = .ok (fc rows) S := by
  refine wp_eq ?_
  unfold m_least_crowd
  simp only [x_run, List.length_cons, List.length_nil, true_and, wpS_seq]
  simp [range61]
  have hm : ∀ d ∈ r1, ∃ k : Int, d = .int k ∧ 0 ≤ k ∧ k < 61 := fun d hd => r1_mem hd
  have hfs : ∀ x, fcO rows r1 = some x → x = fc rows := fun x h => fc_some h
  have hfn : fcO rows r1 = none → D.non = fc rows := fc_none
  generalize r1 = R1 at hm hfs hfn ⊢
  refine for_wp (OInv rows (fcO rows R1) S fun τ => ∃ a b c : Option D, τ = [some (.tup rows), a, b, c]) ?_ ?_ _ _ _ ⟨rfl, hm, ⟨_, _, _, rfl⟩, rfl⟩
  · rintro d es τ S' ⟨e1, hd, ⟨a, b, c, e2⟩, hf⟩
    subst e1; subst e2
    obtain ⟨f, e3, hf61⟩ := hd d (by simp)
    subst e3
    refine ⟨[some (.tup rows), some (.int f), b, c], rfl, ?_⟩
    simp only [x_for, wpS_lift, x_iArgs, wpR_bind, x_aCons, x_aNil, x_var, x_c, List.getElem?_cons_succ, List.getElem?_cons_zero, wpR_ok, R.bind_ok, wpR_ofO, range2_61 hf61]
    refine ⟨_, rfl, ?_⟩
    refine for_wp (IInv rows f (fcI rows f (r2 f)) S' fun τ => ∃ b c : Option D, τ = [some (.tup rows), some (.int f), b, c]) ?_ ?_ _ _ _ ⟨rfl, fun d hd => r2_mem hd, ⟨_, _, rfl⟩, rfl⟩
    · rintro d ls τ S'' ⟨e1, hd2, ⟨b, c, e2⟩, hi⟩
      subst e1; subst e2
      obtain ⟨l, e3⟩ := hd2 d (by simp)
      subst e3
      refine ⟨_, rfl, ?_⟩
      simp [within_in hr hl, hz]
      refine ⟨fun g => ?_, fun g => ⟨rfl, fun d hd => hd2 d (by simp [hd]), ⟨_, _, rfl⟩, fcI_none hi (by omega)⟩⟩
      exact hfs _ (fcO_some hf (fcI_some hi g))
    · rintro τ S'' ⟨e1, _, ⟨b, c, e2⟩, hi⟩
      subst e1; subst e2
      exact ⟨rfl, fun d hd' => hd d (by simp [hd']), ⟨_, _, _, rfl⟩, fcO_none hf hi.symm⟩
  · rintro τ S' ⟨e1, _, ⟨a, b, c, e2⟩, hf⟩
    subst e1; subst e2
    simp only [x_ret, x_c, wpS_lift, wpR_ok, wpS_rt]
    exact ⟨hfn (hf.symm.trans fcO_nil), trivial⟩
theorem first_in {rows : List D} (hr : ∀ d ∈ rows, Hear d) (hl : rows.length ≤ 6) (S : Sto) : m_law_first_crowd [.tup rows] S = .ok (fc rows) S := by
  refine wp_eq ?_
  unfold m_law_first_crowd
  simp only [x_run, List.length_cons, List.length_nil, true_and, wpS_seq]
  simp [range61]
  have hm : ∀ d ∈ r1, ∃ k : Int, d = .int k ∧ 0 ≤ k ∧ k < 61 := fun d hd => r1_mem hd
  have hfs : ∀ x, fcO rows r1 = some x → x = fc rows := fun x h => fc_some h
  have hfn : fcO rows r1 = none → D.non = fc rows := fc_none
  generalize r1 = R1 at hm hfs hfn ⊢
  refine for_wp (OInv rows (fcO rows R1) S fun τ => ∃ a b : Option D, τ = [some (.tup rows), a, b]) ?_ ?_ _ _ _ ⟨rfl, hm, ⟨_, _, rfl⟩, rfl⟩
  · rintro d es τ S' ⟨e1, hd, ⟨a, b, e2⟩, hf⟩
    subst e1; subst e2
    obtain ⟨f, e3, hf61⟩ := hd d (by simp)
    subst e3
    refine ⟨[some (.tup rows), some (.int f), b], rfl, ?_⟩
    simp only [x_for, wpS_lift, x_iArgs, wpR_bind, x_aCons, x_aNil, x_var, x_c, List.getElem?_cons_succ, List.getElem?_cons_zero, wpR_ok, R.bind_ok, wpR_ofO, range2_61 hf61]
    refine ⟨_, rfl, ?_⟩
    refine for_wp (IInv rows f (fcI rows f (r2 f)) S' fun τ => ∃ b : Option D, τ = [some (.tup rows), some (.int f), b]) ?_ ?_ _ _ _ ⟨rfl, fun d hd => r2_mem hd, ⟨_, rfl⟩, rfl⟩
    · rintro d ls τ S'' ⟨e1, hd2, ⟨b, e2⟩, hi⟩
      subst e1; subst e2
      obtain ⟨l, e3⟩ := hd2 d (by simp)
      subst e3
      refine ⟨_, rfl, ?_⟩
      simp [inside_in hr hl, hz]
      refine ⟨fun g => ?_, fun g => ⟨rfl, fun d hd => hd2 d (by simp [hd]), ⟨_, rfl⟩, fcI_none hi (by omega)⟩⟩
      exact hfs _ (fcO_some hf (fcI_some hi g))
    · rintro τ S'' ⟨e1, _, ⟨b, e2⟩, hi⟩
      subst e1; subst e2
      exact ⟨rfl, fun d hd' => hd d (by simp [hd']), ⟨_, _, rfl⟩, fcO_none hf hi.symm⟩
  · rintro τ S' ⟨e1, _, ⟨a, b, e2⟩, hf⟩
    subst e1; subst e2
    simp only [x_ret, x_c, wpS_lift, wpR_ok, wpS_rt]
    exact ⟨hfn (hf.symm.trans fcO_nil), trivial⟩
/-- what it is: a crowd, or none -/
theorem fc_is (rows : List D) : (fc rows = .non ∧ ∀ f l : Int, 0 ≤ f → f ≤ l → l ≤ 60 → ((insI rows f l).length : Int) ≤ l - f + 1) ∨ ∃ f l : Int, 0 ≤ f ∧ f ≤ l ∧ l ≤ 60 ∧ l - f + 1 < (insI rows f l).length ∧ fc rows = .tup [.int f, .int l, .tup ((insI rows f l).map D.int)] := by
  unfold fc
  cases q : fcO rows r1 with
  | none =>
    refine .inl ⟨rfl, fun f l h0 h1 h2 => ?_⟩
    unfold fcO at q
    rw [List.findSome?_eq_none_iff] at q
    have q1 := q (.int f) (List.mem_map.mpr ⟨f.toNat, List.mem_range.mpr (by omega), by congr 1; omega⟩)
    have q2 : fcI rows f (r2 f) = none := q1
    unfold fcI at q2
    rw [List.findSome?_eq_none_iff] at q2
    have q3 := q2 (.int l) (List.mem_map.mpr ⟨(l - f).toNat, List.mem_range.mpr (by omega), by congr 1; omega⟩)
    dsimp only at q3
    by_cases g : l - f + 1 < (insI rows f l).length
    · rw [if_pos g] at q3; cases q3
    · omega
  | some d =>
    refine .inr ?_
    unfold fcO at q
    obtain ⟨x, hx, e⟩ := List.exists_of_findSome?_eq_some q
    obtain ⟨k, hk, rfl⟩ := List.mem_map.mp hx
    have hk' := List.mem_range.mp hk
    dsimp only at e
    unfold fcI at e
    obtain ⟨y, hy, e2⟩ := List.exists_of_findSome?_eq_some e
    obtain ⟨j, hj, rfl⟩ := List.mem_map.mp hy
    have hj' := List.mem_range.mp hj
    dsimp only at e2
    split at e2
    · rename_i g
      cases e2
      exact ⟨_, _, by omega, by omega, by omega, g, rfl⟩
    · cases e2
end Lk74

namespace Lk74
open PySem L2 Z
open Hall (cnt)
theorem eq_tup {ms ns : List Int} {S : Sto} : dEq (.tup (ms.map D.int)) (.tup (ns.map D.int)) S = .ok (.bl (decide (ms = ns))) S := by
  simp [dDat, toPy, toPyD, toPy_ints, plainB, PyData.plain, plain_ints, PyData.depth, depth_ints, PyData.eqv, eqv_ints]
def crw (rows : List D) : D → Bool
  | .tup [a, b, .tup ps] => num a 0 60 && num b 0 60 && ps.all (fun d => num d 0 5) && decide (iv a ≤ iv b) && decide (ps.map iv = insI rows (iv a) (iv b)) && decide (iv b - iv a + 1 < (ps.length : Int))
  | _ => false
theorem crw_no {rows ds : List D} (h : ds.length ≠ 3) : crw rows (.tup ds) = false := by
  unfold crw
  split
  · rename_i e; cases e; exact absurd rfl h
  · rfl
theorem crw_no3 {rows : List D} {a b c : D} (h : isTupD c = false) : crw rows (.tup [a, b, c]) = false := by
  cases c <;> first | rfl | cases h
theorem crw_a {rows : List D} {a b c : D} (h : num a 0 60 = false) : crw rows (.tup [a, b, c]) = false := by
  unfold crw
  split
  · rename_i e; cases e; simp [h]
  · rfl
theorem crw_b {rows : List D} {a b c : D} (h : num b 0 60 = false) : crw rows (.tup [a, b, c]) = false := by
  unfold crw
  split
  · rename_i e; cases e; simp [h]
  · rfl
theorem crowd_law {rows : List D} (hr : ∀ d ∈ rows, Hear d) (hl : rows.length ≤ 6) {d : D} (h : Has d) (hs : ∀ ds, d = .tup ds → ∀ e ∈ ds, Short e) (S : Sto) : m_law_is_crowd [.tup rows, d] S = .ok (.bl (crw rows d)) S := by
  obtain ⟨p, hp⟩ := h
  refine wp_eq ?_
  unfold m_law_is_crowd
  simp [isa_tup hp]
  cases d
  case tup ds =>
    simp [isTupD]
    by_cases q : ds.length = 3
    · obtain ⟨a, b, c, rfl⟩ := three q
      have hh := has_tup ⟨p, hp⟩
      have ha := hh a (by simp)
      have hb := hh b (by simp)
      have hc := hh c (by simp)
      have sc : Short c := hs _ rfl c (by simp)
      obtain ⟨pc, hpc⟩ := hc
      simp [at0, at1, at2, below_ok ha, below_ok hb, bindT, setAll, isa_tup hpc]
      cases na : num a 0 60
      · simp [crw_a na]
      cases nb : num b 0 60
      · simp [crw_b nb]
      obtain ⟨i, rfl, i0, i1⟩ := num_int na
      obtain ⟨j, rfl, j0, j1⟩ := num_int nb
      cases c
      case tup ps =>
        have hlen := sc ps rfl
        have hz1 : ps.length ≤ sizeLine := by rw [hz]; omega
        have hps := has_tup ⟨pc, hpc⟩
        have e1 : lcL [] (Tgt.nm 5) [5] tYesM (mCall m_law_below (aCons (mVar 5) (aCons (mC (D.int 6)) aNil))) ps [some (.tup rows), some (.tup [.int i, .int j, .tup ps]), some (.int i), some (.int j), some (.tup ps), none] S = .ok (ps.map fun d => D.bl (num d 0 5)) S := lc_map (fun d => .bl (num d 0 5)) ps fun d hd => ⟨_, rfl, by simp [wipeT, below_ok (hps d hd)]⟩
        simp only [isTupD]
        cases q3 : ps.all (fun d => num d 0 5)
        · have ec : crw rows (.tup [.int i, .int j, .tup ps]) = false := by simp only [crw, q3, Bool.and_false, Bool.false_and]
          simp [hz1, e1, all_map, q3, ec]
        · have ei := ints_all q3
          by_cases g : i ≤ j
          · have g2 : ¬ j < i := by omega
            have ee : dEq (.tup ps) (.tup ((insI rows i j).map D.int)) S = .ok (.bl (decide (ps.map iv = insI rows i j))) S := by
              rw [← eq_tup, ← ei]
            have ec : crw rows (.tup [.int i, .int j, .tup ps]) = (decide (ps.map iv = insI rows i j) && decide (j - i + 1 < (ps.length : Int))) := by simp only [crw, na, nb, q3, iv, g, decide_true, Bool.and_self, Bool.true_and]; rfl
            by_cases g3 : ps.map iv = insI rows i j
            · simp [hz1, e1, all_map, q3, g2, inside_in hr hl, ee, ec, g3]
            · simp [hz1, e1, all_map, q3, g2, inside_in hr hl, ee, ec, g3]
          · have g2 : j < i := by omega
            have ec : crw rows (.tup [.int i, .int j, .tup ps]) = false := by simp only [crw, iv, g, decide_false, Bool.and_false, Bool.false_and]
            simp [hz1, e1, all_map, q3, g2, ec]
      all_goals
        simp [isTupD, crw]
    · have q2 : (ds.length : Int) ≠ 3 := by omega
      simp [q2, crw_no q]
  all_goals simp [isTupD, crw]
theorem need_wp {rows : List D} (hk : dck (.tup rows) = true) (h : Has (.tup rows)) (hs : Short2 (.tup rows)) (S : Sto) : m_need_docket [.tup rows] S = .ok .non S := by
  refine wp_eq ?_
  unfold m_need_docket
  simp [docket_ok h hs, hk]
theorem crowd_prog {rows : List D} (hr : ∀ d ∈ rows, Hear d) (hl : rows.length ≤ 6) (hn : ∀ S, m_need_docket [.tup rows] S = .ok .non S) {d : D} (h : Has d) (hs : ∀ ds, d = .tup ds → ∀ e ∈ ds, Short e) (S : Sto) : m_crowd_holds [.tup rows, d] S = .ok (.bl (crw rows d)) S := by
  obtain ⟨p, hp⟩ := h
  refine wp_eq ?_
  unfold m_crowd_holds
  simp [isa_tup hp, hn]
  cases d
  case tup ds =>
    simp [isTupD]
    by_cases q : ds.length = 3
    · obtain ⟨a, b, c, rfl⟩ := three q
      have hh := has_tup ⟨p, hp⟩
      have ha := hh a (by simp)
      have hb := hh b (by simp)
      have hc := hh c (by simp)
      have sc : Short c := hs _ rfl c (by simp)
      obtain ⟨pc, hpc⟩ := hc
      simp [at0, at1, at2, upto_ok ha, upto_ok hb, bindT, setAll, isa_tup hpc]
      cases na : num a 0 60
      · simp [crw_a na]
      cases nb : num b 0 60
      · simp [crw_b nb]
      obtain ⟨i, rfl, i0, i1⟩ := num_int na
      obtain ⟨j, rfl, j0, j1⟩ := num_int nb
      cases c
      case tup ps =>
        have hlen := sc ps rfl
        have hz1 : ps.length ≤ sizeLine := by rw [hz]; omega
        have hps := has_tup ⟨pc, hpc⟩
        have e1 : lcL [] (Tgt.nm 5) [5] tYesM (mCall m_is_upto (aCons (mVar 5) (aCons (mCall dLen (aCons (mVar 0) aNil)) aNil))) ps [some (.tup rows), some (.tup [.int i, .int j, .tup ps]), some (.int i), some (.int j), some (.tup ps), none] S = .ok (ps.map fun d => D.bl (num d 0 ((rows.length : Int) - 1))) S := lc_map (fun d => .bl (num d 0 ((rows.length : Int) - 1))) ps fun d hd => ⟨_, rfl, by simp [wipeT, upto_ok (hps d hd)]⟩
        simp only [isTupD]
        cases q3 : ps.all (fun d => num d 0 ((rows.length : Int) - 1))
        · have ec : crw rows (.tup [.int i, .int j, .tup ps]) = false := by
            cases qc : crw rows (.tup [.int i, .int j, .tup ps]) with
            | false => rfl
            | true =>
              exfalso
              simp only [crw, Bool.and_eq_true, decide_eq_true_eq] at qc
              have e5 := ints_all qc.1.1.1.2
              have e6 := qc.1.2
              rw [← Bool.not_eq_true, List.all_eq_true] at q3
              refine q3 fun d hd => ?_
              rw [e5] at hd
              obtain ⟨z, hz', rfl⟩ := List.mem_map.mp hd
              rw [e6] at hz'
              have := ins_lt hz'
              simp only [num, Bool.and_eq_true, decide_eq_true_eq]
              omega
          simp [hz1, e1, all_map, q3, ec]
        · have q5 : ps.all (fun d => num d 0 5) = true := by
            rw [List.all_eq_true] at q3 ⊢
            intro d hd
            obtain ⟨z, rfl, z0, z1⟩ := num_int (q3 d hd)
            simp only [num, Bool.and_eq_true, decide_eq_true_eq]
            omega
          have ei := ints_all q5
          have ee : dEq (.tup ps) (.tup ((insI rows i j).map D.int)) S = .ok (.bl (decide (ps.map iv = insI rows i j))) S := by
            rw [← eq_tup, ← ei]
          by_cases g : i ≤ j
          · have ec : crw rows (.tup [.int i, .int j, .tup ps]) = (decide (ps.map iv = insI rows i j) && decide (j - i + 1 < (ps.length : Int))) := by simp only [crw, na, nb, q5, iv, g, decide_true, Bool.and_self, Bool.true_and]; rfl
            by_cases g3 : ps.map iv = insI rows i j
            · simp [hz1, e1, all_map, q3, g, within_in hr hl, ee, ec, g3]
            · simp [hz1, e1, all_map, q3, g, within_in hr hl, ee, ec, g3]
          · have ec : crw rows (.tup [.int i, .int j, .tup ps]) = false := by simp only [crw, iv, g, decide_false, Bool.and_false, Bool.false_and]
            simp [hz1, e1, all_map, q3, g, ec]
      all_goals
        simp [isTupD, crw]
    · have q2 : (ds.length : Int) ≠ 3 := by omega
      simp [q2, crw_no q]
  all_goals simp [isTupD, crw]
end Lk74

namespace Lk74
open PySem L2 Z
open Hall (cnt)
theorem for_wpK {ks : List (Nat × C)} {g : Tgt} {body : MS} {N : Tau → Sto → Prop} {T : D → Sto → Prop} (Inv : List D → Tau → Sto → Prop) (hk : ∀ es τ S, Inv es τ S → keepOk ks S) (step : ∀ d ds τ S, Inv (d :: ds) τ S → ∃ τ1, bindT g d τ = some τ1 ∧ wpS (body τ1 S) (fun τ2 S2 => Inv ds τ2 S2) T)
    (fin : ∀ τ S, Inv [] τ S → N τ S) : ∀ ds τ S, Inv ds τ S → wpS (forL ks g body ds τ S) N T
  | [], τ, S, h => by
    unfold forL
    rw [if_pos (keepB_iff.mpr (hk _ _ _ h))]
    exact fin τ S h
  | d :: ds, τ, S, h => by
    unfold forL
    rw [if_pos (keepB_iff.mpr (hk _ _ _ h))]
    obtain ⟨τ1, e, w⟩ := step d ds τ S h
    rw [e]
    show wpS (match body τ1 S with | .nx τ2 S2 => forL ks g body ds τ2 S2 | .ct τ2 S2 => forL ks g body ds τ2 S2 | .bk τ2 S2 => .nx τ2 S2 | o => o) N T
    cases q : body τ1 S <;> rw [q] at w
    case nx τ2 S2 => exact for_wpK Inv hk step fin ds τ2 S2 w
    all_goals first | exact False.elim w | exact w
def rowT (r : List Int) : D := .tup (r.map D.int)
theorem notin {z : Int} {r : List Int} {S : Sto} : dNotInL (.int z) (.tup (r.map D.int)) S = .ok (.bl (!r.contains z)) S := by
  have e : (r.map PyData.int).any (fun y => PyData.eqv y (.int z)) = r.contains z := by
    rw [Bool.eq_iff_iff, List.any_eq_true, List.contains_iff_mem]
    constructor
    · rintro ⟨y, hy, e⟩
      obtain ⟨a, ha, rfl⟩ := List.mem_map.mp hy
      have : a = z := by simpa [PyData.eqv] using e
      exact this ▸ ha
    · intro h
      exact ⟨.int z, List.mem_map.mpr ⟨z, h, rfl⟩, by simp [PyData.eqv]⟩
  have e1 : toPy (.tup (r.map D.int)) S = some (.tuple (r.map PyData.int)) := by simp [toPy, toPyD, toPy_ints]
  have e2 : toPy (.int z) S = some (.int z) := rfl
  have e3 : inB (.int z) (.tuple (r.map PyData.int)) = true := by simp [inB, PyData.plain, plain_ints, PyData.depth]
  have e4 : inPy (.int z) (.tuple (r.map PyData.int)) = r.contains z := e
  simp only [dDat, e1, e2, e3, if_true, e4]
theorem ext_lc {τ : Tau} {S : Sto} {i j : Int} {r : List Int} (h6 : (wipeT τ [7])[6]? = some (some (rowT r))) (h7 : τ.length = 8) (hr : r.length ≤ 10) :
    lcL [] (.nm 7) [7] (mB (mBin dNotInL (mVar 7) (mVar 6))) (mBin dAdd (mVar 6) (mTup (aCons (mVar 7) aNil))) ((Hall.irng i j).map D.int) τ S = .ok ((Hall.ext (i, j) r).map rowT) S := by
  have e := lc_fm (g := .nm 7) (vs := [7]) (tm := mB (mBin dNotInL (mVar 7) (mVar 6))) (e := mBin dAdd (mVar 6) (mTup (aCons (mVar 7) aNil))) (τ := τ) (S := S) (fun d => !r.contains (iv d)) (fun d => .tup (r.map D.int ++ [d])) ((Hall.irng i j).map D.int) fun d hd => by
    obtain ⟨z, _, rfl⟩ := List.mem_map.mp hd
    have l7 : (wipeT τ [7]).length = 8 := by simp [wipeT, h7]
    have e7 : ((wipeT τ [7]).set 7 (some (D.int z)))[7]? = some (some (.int z)) := List.getElem?_set_self (by omega)
    have e6 : ((wipeT τ [7]).set 7 (some (D.int z)))[6]? = some (some (rowT r)) := by rw [List.getElem?_set_ne (by decide)]; exact h6
    refine ⟨_, rfl, ?_, ?_⟩
    · simp only [x_B, x_bin, x_var, e7, e6, R.bind_ok, rowT, notin, x_asB, iv]
    · refine wp_eq ?_
      simp [e7, e6, rowT, hz]
      omega
  rw [e]
  congr 1
  unfold Hall.ext
  simp [List.filter_map, List.map_map, rowT, Function.comp_def, iv]
theorem toPy_rows : ∀ R : List (List Int), ∃ ps, toPyDs (R.map rowT) = some ps ∧ PyData.plainAll ps = true ∧ PyData.depthAll ps ≤ 1 ∧ ps.length = R.length
  | [] => ⟨[], rfl, rfl, by simp [PyData.depthAll], rfl⟩
  | r :: R => by
    obtain ⟨ps, h1, h2, h3, h4⟩ := toPy_rows R
    refine ⟨.tuple (r.map PyData.int) :: ps, ?_, ?_, ?_, by simp [h4]⟩
    · simp [toPyDs, rowT, toPyD, toPy_ints, h1]
    · simp [PyData.plainAll, PyData.plain, plain_ints, h2]
    · simp only [PyData.depthAll, PyData.depth, depth_ints]; omega
/-- a list at hand -/
def At (x : D) (S : Sto) (ds : List D) : Prop := x = .lst ds ∨ ∃ m, x = .loc m ∧ S[m]? = some (.lst ds)
theorem ne_nil {x : D} {S : Sto} {R : List (List Int)} (h : At x S (R.map rowT)) : dNe x (.lst []) S = .ok (.bl (decide (R ≠ []))) S := by
  obtain ⟨ps, h1, h2, h3, h4⟩ := toPy_rows R
  have e : toPy x S = some (.list ps) := by
    rcases h with rfl | ⟨m, rfl, hm⟩
    · simp [toPy, toPyD, h1]
    · simp [toPy, hm, h1]
  have e2 : toPy (.lst []) S = some (.list []) := rfl
  have e3 : plainB (.list ps) (.list []) = true := by simp [plainB, PyData.plain, PyData.plainAll, h2, PyData.depth]; omega
  have e4 : PyData.eqv (.list ps) (.list []) = decide (R = []) := by
    cases ps with
    | nil =>
      have : R = [] := by cases R with | nil => rfl | cons _ _ => simp at h4
      subst this
      simp [PyData.eqv, PyData.eqvAll]
    | cons a b =>
      have : R ≠ [] := by rintro rfl; simp at h4
      simp [PyData.eqv, PyData.eqvAll, this]
  simp only [dDat, e, e2, e3, if_true, e4]
  congr 2
  by_cases q : R = [] <;> simp [q]
theorem items_at {x : D} {S : Sto} {ds : List D} (n : Nat) (h : At x S ds) (hn : ∀ m, x = .loc m → m < n) : ∃ ks, itemsOf x S = some ⟨ds, ks⟩ ∧ ∀ S' : Sto, (∀ m, m < n → S'[m]? = S[m]?) → keepOk ks S' := by
  rcases h with rfl | ⟨m, rfl, hm⟩
  · exact ⟨[], rfl, fun _ _ _ h => nomatch h⟩
  · refine ⟨[(m, .lst ds)], by simp [itemsOf, hm], fun S' h p hp => ?_⟩
    rw [List.mem_singleton.mp hp]
    rw [h m (hn m rfl)]
    exact hm
theorem range2_irng {i j : Int} {S : Sto} (i0 : 0 ≤ i) (ij : i ≤ j) (j1 : j ≤ 60) : range2 [.int i, .int (j + 1)] S = some ⟨(Hall.irng i j).map D.int, []⟩ := by
  rw [range2_pos ⟨by omega, by omega, by omega, by omega⟩]
  unfold Hall.irng
  rw [List.map_map]
  rfl
theorem extend_wp {l : Nat} {S : Sto} {ds es : List D} {Q : D → Sto → Prop} (h : S[l]? = some (.lst ds)) (hn : ds.length + es.length ≤ 16777216) (k : Q .non (S.set l (.lst (ds ++ es)))) : wpR (dExtend (.loc l) [.lst es] S) Q := by
  simp [dExtend, listD, h, hz, hn]
  exact k
def ORow (rows : List D) (n : Nat) (l : Nat) (total : List (List Int)) (es : List D) (τ : Tau) (S : Sto) : Prop :=
  ∃ (R : List (List Int)) (x : D) (a b c d e f : Option D), τ = [some (.tup rows), some x, a, b, c, d, e, f] ∧ At x S (R.map rowT) ∧ R.length * 5 ^ es.length ≤ 625 ∧ (∀ r ∈ R, r.length ≤ 10 - es.length) ∧ es.length ≤ 4 ∧ (es.map spn).foldl Hall.step R = total ∧ (∀ d ∈ es, Hear d) ∧ Pen l S ∧ n ≤ S.length
def IRow (rows : List D) (x : D) (i j : Int) (kk : Nat) (S0 : Sto) (R : List (List Int)) (es : List D) (τ : Tau) (S : Sto) : Prop :=
  ∃ (R1 R2 : List (List Int)) (c f g : Option D), τ = [some (.tup rows), some x, some (.int i), some (.int j), c, some (.loc kk), f, g] ∧ R = R1 ++ R2 ∧ es = R2.map rowT ∧ S[kk]? = some (.lst ((Hall.step R1 (i, j)).map rowT)) ∧ S.length = kk + 1 ∧ ∀ m, m < kk → S[m]? = S0[m]?
theorem orders_wp {l : Nat} {S : Sto} {rows : List D} {Q : D → Sto → Prop} (hp : Pen l S) (hr : ∀ d ∈ rows, Hear d) (hl : rows.length ≤ 4) (k : ∀ x S', At x S' ((Hall.ords (rows.map spn)).map rowT) → Pen l S' → Q x S') : wpR (m_law_orders [.tup rows] S) Q := by
  unfold m_law_orders
  simp only [x_run, List.length_cons, List.length_nil, true_and, wpS_seq]
  simp [hz]
  refine for_wp (ORow rows 0 l (Hall.ords (rows.map spn))) ?_ ?_ _ _ _ ⟨[[]], _, _, _, _, _, _, _, rfl, .inl rfl, ?_, by simp, hl, rfl, hr, hp, Nat.zero_le _⟩
  · rintro d es τ S1 ⟨R, x, a, b, c, d2, e, f, rfl, hx, hR, hR2, hes, ht, hh, p1, _⟩
    obtain ⟨i, j, ps, rfl, i0, ij, j60, w, _⟩ := hh d (by simp)
    refine ⟨_, rfl, ?_⟩
    simp [hz]
    have hx1 : At x (S1 ++ [C.lst []]) (R.map rowT) := by
      rcases hx with h | ⟨m, rfl, hm⟩
      · exact .inl h
      · exact .inr ⟨m, rfl, by rw [List.getElem?_append_left (List.getElem?_eq_some_iff.mp hm).1]; exact hm⟩
    have hloc : ∀ m, x = .loc m → m < S1.length := fun m e => by
      rcases hx with h | ⟨m', h, hm⟩
      · rw [h] at e; cases e
      · rw [h] at e; cases e
        exact (List.getElem?_eq_some_iff.mp hm).1
    obtain ⟨ks', k1', k2'⟩ := items_at S1.length hx1 hloc
    refine ⟨_, k1', ?_⟩
    have hlen5 : R.length ≤ 125 := by
      have : 5 ≤ 5 ^ (es.length + 1) := by rw [Nat.pow_succ]; have := Nat.pos_of_ne_zero (by simp : 5 ^ es.length ≠ 0); omega
      simp only [List.length_cons] at hR
      have := Nat.mul_le_mul_left R.length this
      omega
    refine for_wpK (IRow rows x i j S1.length S1 R) ?_ ?_ ?_ _ _ _ ⟨[], R, _, _, _, rfl, rfl, rfl, by simp [Hall.step], by simp, fun m hm => List.getElem?_append_left hm⟩
    · rintro es2 τ S2 ⟨R1, R2, c, f, g, _, _, _, _, _, hk2⟩
      exact k2' S2 fun m hm => by rw [hk2 m hm, List.getElem?_append_left hm]
    · rintro d es2 τ S2 ⟨R1, R2, c, f, g, rfl, eR, e2, hs2, hl2, hk2⟩
      cases R2 with
      | nil => simp at e2
      | cons r R2 =>
        simp only [List.map_cons, List.cons.injEq] at e2
        obtain ⟨rfl, rfl⟩ := e2
        refine ⟨_, rfl, ?_⟩
        have hrl : r.length ≤ 10 := by have := hR2 r (by rw [eR]; simp); omega
        have eL := ext_lc (τ := [some (.tup rows), some x, some (.int i), some (.int j), c, some (.loc S1.length), some (rowT r), g]) (S := S2) (i := i) (j := j) (r := r) rfl rfl hrl
        have h1 : R1.length ≤ 125 := by rw [eR] at hlen5; simp at hlen5; omega
        have w' : (i, j).2 < (i, j).1 + 5 := w
        have h2 := Hall.step_len (h := (i, j)) w' R1
        have h3 := Hall.ext_len (r := r) w'
        have hirl : (Hall.irng i j).length ≤ 16777216 := by
          unfold Hall.irng
          rw [List.length_map, List.length_range]
          omega
        simp [isTy, hs2, range2_irng i0 ij j60, hz, eL, hirl]
        refine extend_wp hs2 (by simp; omega) ⟨R1 ++ [r], R2, _, _, _, rfl, by simp [eR], rfl, ?_, by simpa using hl2, fun m hm => ?_⟩
        · rw [List.getElem?_set_self (by omega)]
          simp [Hall.step]
        · rw [List.getElem?_set_ne (by omega)]
          exact hk2 m hm
    · rintro τ S2 ⟨R1, R2, c, f, g, rfl, eR, e2, hs2, hl2, hk2⟩
      have : R2 = [] := by cases R2 with | nil => rfl | cons _ _ => simp at e2
      subst this
      rw [List.append_nil] at eR
      subst eR
      have w' : (i, j).2 < (i, j).1 + 5 := w
      have h2 := Hall.step_len (h := (i, j)) w' R
      refine ⟨Hall.step R (i, j), _, _, _, _, _, _, _, rfl, .inr ⟨_, rfl, hs2⟩, ?_, fun r hr' => ?_, by simp at hes; omega, ?_, fun d hd => hh d (by simp [hd]), ?_, Nat.zero_le _⟩
      · simp only [List.length_cons, Nat.pow_succ] at hR
        have := Nat.mul_le_mul_right (5 ^ es.length) h2
        rw [Nat.mul_comm (5 ^ es.length) 5, ← Nat.mul_assoc, Nat.mul_comm R.length 5] at hR
        omega
      · obtain ⟨r0, hr0, he⟩ := List.mem_flatMap.mp hr'
        obtain ⟨z, rfl, _⟩ := Hall.ext_mem.mp he
        have := hR2 r0 hr0
        simp at this hes ⊢
        omega
      · simpa [spn] using ht
      · obtain ⟨u, v, e⟩ := p1
        exact ⟨u, v, by rw [hk2 l (List.getElem?_eq_some_iff.mp e).1]; exact e⟩
  · rintro τ S1 ⟨R, x, a, b, c, d2, e, f, rfl, hx, hR, hR2, hes, ht, hh, p1, _⟩
    simp
    have e : R = Hall.ords (rows.map spn) := ht
    rw [e] at hx
    exact k x S1 hx p1
  · have := Nat.pow_le_pow_right (show 0 < 5 by decide) hl
    simp
    omega
end Lk74

namespace Lk74
open PySem L2 Z
open Hall (cnt)
theorem lc_mapK {ks : List (Nat × C)} {g : Tgt} {vs : List Nat} {e : ME} {τ : Tau} {S : Sto} (hk : keepOk ks S) (f : D → D) : ∀ (ds : List D), (∀ d ∈ ds, ∃ τ1, bindT g d (wipeT τ vs) = some τ1 ∧ e τ1 S = .ok (f d) S) → lcL ks g vs tYesM e ds τ S = .ok (ds.map f) S
  | [], _ => by
    unfold lcL
    rw [if_pos (keepB_iff.mpr hk)]
    rfl
  | d :: ds, step => by
    unfold lcL
    rw [if_pos (keepB_iff.mpr hk)]
    obtain ⟨τ1, e1, w⟩ := step d (by simp)
    have rest := lc_mapK hk f ds (fun d hd => step d (by simp [hd]))
    rw [e1]
    show (noEx (tYesM τ1 S)).bind _ = _
    simp only [tYesM, noEx_ok, R.bind_ok, if_true, w, rest, List.map_cons]
theorem ints_app {ns : List Int} {z : Int} : intsOf (ns.map D.int ++ [.int z]) = some (ns ++ [z]) := by
  have := intsOf_map (ns ++ [z])
  simpa using this
theorem gi {k : Nat} {i : Int} (h0 : -1000 < i) (h1 : i < 1000) : Gd k (.int i) = true := Gd_int (by omega) (by omega)
theorem tri {k : Nat} {a b c : D} (ha : Gd k a = true) (hb : Gd k b = true) (hc : Gd k c = true) : Gd (k + 1) (.tup [a, b, c]) = true := by
  refine Gd_tup (by simp) fun d hd => ?_
  simp only [List.mem_cons, List.not_mem_nil, or_false] at hd
  rcases hd with rfl | rfl | rfl <;> assumption
theorem Gints {ns : List Int} (hl : ns.length ≤ 16) (h : ∀ z ∈ ns, -1000 < z ∧ z < 1000) : Gd 1 (.tup (ns.map D.int)) = true := Gd_tup (by simpa using hl) fun d hd => by
  obtain ⟨z, hz', rfl⟩ := List.mem_map.mp hd
  exact gi (h z hz').1 (h z hz').2
def gdb (d : D) : Bool := Gd 4 d || match d with | .dct [] [] => true | _ => false
theorem gdb_GD {d : D} (h : gdb d = true) : GD d := by
  simp only [gdb, Bool.or_eq_true] at h
  refine h.imp id fun h => ?_
  split at h
  · rfl
  · cases h
theorem append_wp {l : Nat} {S : Sto} {ds : List D} {y : D} {Q : D → Sto → Prop} (h : S[l]? = some (.lst ds)) (hn : ds.length < 16777216) (k : Q .non (S.set l (.lst (ds ++ [y])))) : wpR (dAppend (.loc l) [y] S) Q := by
  simp [dAppend, h, hz, hn]
  exact k
def HInv (l : Nat) (rows : List D) (es : List D) (τ : Tau) (S : Sto) : Prop :=
  ∃ (low : Int) (th : List D) (a c d e f g h : Option D), τ = [some (.loc l), some (.tup rows), a, some (.int low), some (.lst th), c, d, e, f, g, h] ∧ 0 ≤ low ∧ low ≤ 60 ∧ (∀ d ∈ th, GD d) ∧ th.length + 20 * es.length ≤ 1000 ∧ Pen l S
theorem things_wp {l : Nat} {S : Sto} {rows : List D} {Q : D → Sto → Prop} (hp : Pen l S) (hr : ∀ d ∈ rows, Hear d) (hl1 : 1 ≤ rows.length) (hl : rows.length ≤ 6) (k : ∀ th S', th.length ≤ 1000 → (∀ d ∈ th, GD d) → Pen l S' → Q (.lst th) S') : wpR (m_law_things [.loc l, .tup rows] S) Q := by
  unfold m_law_things
  simp only [draw_eq, x_run, List.length_cons, List.length_nil, true_and, wpS_seq]
  simp
  refine pick Hear hr (by omega) (by omega) fun one ho => ?_
  obtain ⟨i, j, ps, rfl, i0, ij, j60, w, _⟩ := ho
  simp [at0, hz, setAll, range1]
  refine for_wp (HInv l rows) ?_ ?_ _ _ _ ⟨i, _, _, _, _, _, _, _, _, rfl, i0, by omega, ?_, by simp, hp⟩
  · rintro d es τ S1 ⟨low, th, a, c, d2, e, f, g, h, rfl, l0, l1, ht, hn, p1⟩
    refine ⟨_, rfl, ?_⟩
    simp
    refine draw_wp p1 (by omega) (by omega) fun r2 S2 a2 b2 p2 f2 => ?_
    simp
    generalize hv5 : (if 0 < low - 2 + r2 then low - 2 + r2 else 0) = v5
    have v50 : 0 ≤ v5 ∧ v5 < 100 := by rw [← hv5]; split <;> omega
    refine draw_wp p2 (by omega) (by omega) fun r3 S3 a3 b3 p3 f3 => ?_
    simp
    generalize hv6 : (if v5 + r3 < 60 then v5 + r3 else 60) = v6
    have v60 : 0 ≤ v6 ∧ v6 < 100 := by rw [← hv6]; split <;> omega
    simp [inside_in hr hl]
    refine draw_wp p3 (by omega) (by omega) fun at_ S4 a4 b4 p4 f4 => ?_
    have il := ins_len (rows := rows) (f := v5) (l := v6)
    have ib : ∀ z ∈ insI rows v5 v6, -1000 < z ∧ z < 1000 := fun z hz' => by have := ins_lt hz'; omega
    generalize insI rows v5 v6 = ns at il ib ⊢
    simp [setAll, hz]
    have hsl := stepD_len (ds := ns.map D.int) (by simp; omega)
    refine (wpR_guard _ _ _).mpr ⟨by omega, ?_⟩
    rw [wpR_ok]
    have es1 : dSortSet (.tup (ns.map D.int ++ [.int at_])) S4 = .ok (.lst ((sortSet (ns ++ [at_])).map D.int)) S4 := by
      have h64 : (ns ++ [at_]).length < 64 := by simp; omega
      simp only [dSortSet, seqR, ints_app, guardR_pos h64]
    rw [es1]
    refine ⟨by omega, ?_⟩
    rw [wpR_ok, x_tupL, wpR_ok]
    refine ⟨fun _ => ?_, by simp [isTy]⟩
    have gn : Gd 1 (.tup (ns.map D.int)) = true := Gints (by omega) ib
    have gsub : ∀ xs : List D, xs.length ≤ 16 → (∀ d ∈ xs, d ∈ ns.map D.int) → Gd 1 (.tup xs) = true := fun xs h1 h2 => Gd_tup h1 fun d hd => by
      obtain ⟨z, hz', rfl⟩ := List.mem_map.mp (h2 d hd)
      exact gi (ib z hz').1 (ib z hz').2
    have ib2 : ∀ z ∈ ns ++ [at_], -1000 < z ∧ z < 1000 := fun z hz' => by
      rcases List.mem_append.mp hz' with h | h
      · exact ib z h
      · rw [List.mem_singleton.mp h]; omega
    have gapp : Gd 1 (.tup (ns.map D.int ++ [.int at_])) = true := by
      have := Gints (ns := ns ++ [at_]) (by simp; omega) ib2
      simpa using this
    have gset : Gd 1 (.tup ((sortSet (ns ++ [at_])).map D.int)) = true := Gints (by have := sortSet_len (l := ns ++ [at_]); simp at this; omega) fun z hz' => ib2 z (sortSet_mem.mp hz')
    have glst : Gd 1 (.lst (ns.map D.int)) = true := Gd_lst (by simp; omega) fun d hd => by
      obtain ⟨z, hz', rfl⟩ := List.mem_map.mp hd
      exact gi (ib z hz').1 (ib z hz').2
    refine append_wp List.getElem?_concat_length (by simp) ?_
    have parts : ∀ d ∈ [D.tup (ns.map D.int), D.tup (cutD (ns.map D.int) (some 1) none), D.tup (stepD (ns.map D.int) (-1)), D.lst (ns.map D.int), D.tup (ns.map D.int ++ [D.int at_]), D.tup ((sortSet (ns ++ [at_])).map D.int), D.tup []] ++ [D.tup [D.int rows.length]], Gd 1 d = true := by
      intro d hd
      simp only [List.mem_append, List.mem_cons, List.not_mem_nil, or_false] at hd
      rcases hd with (rfl | rfl | rfl | rfl | rfl | rfl | rfl) | rfl
      · exact gn
      · exact gsub _ (Nat.le_trans cutD_len (by simp; omega)) fun d hd => cutD_mem hd
      · exact gsub _ hsl fun d hd => stepD_mem hd
      · exact glst
      · exact gapp
      · exact gset
      · rfl
      · exact Gints (ns := [(rows.length : Int)]) (by simp) fun z hz' => by rw [List.mem_singleton.mp hz']; omega
    have pl : ([D.tup (ns.map D.int), D.tup (cutD (ns.map D.int) (some 1) none), D.tup (stepD (ns.map D.int) (-1)), D.lst (ns.map D.int), D.tup (ns.map D.int ++ [D.int at_]), D.tup ((sortSet (ns ++ [at_])).map D.int), D.tup []] ++ [D.tup [D.int rows.length]]).length = 8 := rfl
    generalize [D.tup (ns.map D.int), D.tup (cutD (ns.map D.int) (some 1) none), D.tup (stepD (ns.map D.int) (-1)), D.lst (ns.map D.int), D.tup (ns.map D.int ++ [D.int at_]), D.tup ((sortSet (ns ++ [at_])).map D.int), D.tup []] = P0 at parts pl ⊢
    generalize P0 ++ [D.tup [D.int rows.length]] = P1 at parts pl ⊢
    have hs5 : ((S4 ++ [C.lst P0]).set S4.length (.lst P1))[S4.length]? = some (.lst P1) := List.getElem?_set_self (by simp)
    have hkl : S4.length ≠ l := fun e => by have := p4.lt; omega
    have p5 : Pen l ((S4 ++ [C.lst P0]).set S4.length (.lst P1)) := by
      obtain ⟨x, y, e⟩ := (p4.push (c := C.lst P0))
      exact ⟨x, y, by rw [List.getElem?_set_ne hkl]; exact e⟩
    generalize (S4 ++ [C.lst P0]).set S4.length (.lst P1) = S5 at hs5 p5 ⊢
    generalize S4.length = kk at hs5 hkl ⊢
    refine ⟨⟨P1, [(kk, .lst P1)]⟩, by simp [itemsOf, hs5], show P1.length ≤ _ by omega, ?_⟩
    have hkeep : keepOk [(kk, C.lst P1)] S5 := fun p hp => by rw [List.mem_singleton.mp hp]; exact hs5
    rw [lc_mapK hkeep (fun d => .tup [.int v5, .int v6, d]) P1 fun d hd => ⟨_, rfl, by refine wp_eq ?_; simp [wipeT, hz]⟩]
    rw [wpR_ok]
    have hnth : th.length ≤ 980 := by simp at hn; omega
    refine (wpR_guard _ _ _).mpr ⟨by simp; omega, ?_⟩
    rw [wpR_ok, x_addL]
    refine (wpR_guard _ _ _).mpr ⟨by rw [hz]; simp; omega, ?_⟩
    rw [wpR_ok]
    have n5 : ∀ {k}, Gd k (.int v5) = true := gi (by omega) (by omega)
    have n6 : ∀ {k}, Gd k (.int v6) = true := gi (by omega) (by omega)
    refine ⟨low, _, _, _, _, _, _, _, _, rfl, l0, l1, fun d hd => ?_, by simp at hn ⊢; omega, p5⟩
    simp only [List.mem_append, List.mem_cons, List.not_mem_nil, or_false] at hd
    rcases hd with (hd | hd) | rfl | rfl | rfl
    · exact ht d hd
    · obtain ⟨x, hx, rfl⟩ := List.mem_map.mp hd
      exact .inl (up4 (tri n5 n6 (parts x hx)) (by decide))
    · exact .inl (up4 (tri n6 n5 gn) (by decide))
    · refine .inl (up4 (Gd_lst (k := 1) (by simp) fun d hd => ?_) (by decide))
      simp only [List.mem_cons, List.not_mem_nil, or_false] at hd
      rcases hd with rfl | rfl | rfl
      · exact n5
      · exact n6
      · exact gn
    · refine .inl (up4 (Gd_tup (k := 1) (by simp) fun d hd => ?_) (by decide))
      simp only [List.mem_cons, List.not_mem_nil, or_false] at hd
      rcases hd with rfl | rfl
      · exact n5
      · exact n6
  · rintro τ S1 ⟨low, th, a, c, d2, e, f, g, h, rfl, l0, l1, ht, hn, p1⟩
    simp
    exact k th S1 (by simp at hn; omega) ht p1
  · intro d hd
    refine gdb_GD (List.all_eq_true.mp ?_ d hd)
    decide +kernel
end Lk74

namespace Lk74
open PySem L2 Z
open Hall (cnt)
theorem Gd_short {k : Nat} {d : D} (h : Gd k d = true) : Short d := by
  intro ds e
  subst e
  cases k with
  | zero => simp [Gd] at h
  | succ k =>
    simp only [Gd, Bool.and_eq_true, decide_eq_true_eq] at h
    exact h.1
theorem Gd_in {k : Nat} {ds : List D} {d : D} (h : Gd (k + 1) (.tup ds) = true) (hd : d ∈ ds) : Gd k d = true := by
  simp only [Gd, Bool.and_eq_true, List.all_eq_true] at h
  exact h.2 d hd
theorem GD_parts {d : D} (h : GD d) : ∀ ds, d = .tup ds → ∀ e ∈ ds, Short e := by
  intro ds e x hx
  subst e
  rcases h with h | h
  · exact Gd_short (Gd_in h hx)
  · cases h
theorem GD_short2 {d : D} (h : GD d) : Short2 d := by
  intro ds e d2 h2 es e2 d3 h3
  subst e; subst e2
  rcases h with h | h
  · exact Gd_short (Gd_in (Gd_in h h2) h3)
  · cases h
theorem num_ok {i lo hi : Int} (h0 : lo ≤ i) (h1 : i ≤ hi) : num (.int i) lo hi = true := by simp [num, h0, h1]
theorem Hear.her {d : D} (h : Hear d) : her d = true := by
  obtain ⟨i, j, ps, rfl, i0, ij, j60, w, hp⟩ := h
  have e : prs (.tup (ps.map D.int)) = true := by
    have e1 : (ps.map D.int).all (fun d => num d 0 5) = true := List.all_eq_true.mpr fun d hd => by
      obtain ⟨z, hz', rfl⟩ := List.mem_map.mp hd
      have := hp.2.2 z hz'
      exact num_ok (by omega) (by omega)
    have e2 : (ps.map D.int).map iv = ps := by rw [List.map_map]; exact List.map_id _
    simp only [prs, e1, e2, Bool.true_and]
    exact decide_eq_true hp.2.1
  have w9 : j ≤ i + 9 := by omega
  simp only [Lk74.her, e, num_ok i0 (show i ≤ 60 by omega), num_ok (show 0 ≤ j by omega) j60, iv, ij, w9, decide_true, Bool.and_self]
theorem Hear.gd {d : D} (h : Hear d) : Gd 2 d = true := by
  obtain ⟨i, j, ps, rfl, h1, h2, h3, h4, hp⟩ := h
  exact tri (gi (by omega) (by omega)) (gi (by omega) (by omega)) (Gints (by have := hp.1; omega) fun z hz' => by have := hp.2.2 z hz'; omega)
theorem spn_ok {rows : List D} (hr : ∀ d ∈ rows, Hear d) : ∀ h ∈ rows.map spn, 0 ≤ h.1 ∧ h.1 ≤ h.2 ∧ h.2 ≤ 60 := fun h hh => by
  obtain ⟨d, hd, rfl⟩ := List.mem_map.mp hh
  obtain ⟨i, j, ps, rfl, i0, ij, j60, w, hp⟩ := hr d hd
  exact ⟨i0, ij, j60⟩
theorem x_neB (a b : Bool) (S : Sto) : dNe (.bl a) (.bl b) S = .ok (.bl (!(a == b))) S := by
  simp [dDat, toPy, toPyD, plainB, PyData.plain, PyData.depth, PyData.eqv]
theorem fc_GD {rows : List D} (hl : rows.length ≤ 6) : GD (fc rows) := by
  rcases fc_is rows with ⟨e, _⟩ | ⟨f, l, f0, fl, l60, _, e⟩
  · rw [e]; exact .inl rfl
  · rw [e]
    exact .inl (up4 (tri (gi (by omega) (by omega)) (gi (by omega) (by omega)) (Gints (by have := ins_len (rows := rows) (f := f) (l := l); omega) fun z hz' => by have := ins_lt hz'; omega)) (by decide))
theorem fc_ords {rows : List D} (hr : ∀ d ∈ rows, Hear d) : Z.isNon (fc rows) = some (decide (Hall.ords (rows.map spn) ≠ [])) := by
  have c := Hall.crowd_iff (spn_ok hr)
  rcases fc_is rows with ⟨e, h⟩ | ⟨f, l, f0, fl, l60, h, e⟩
  · rw [e]
    have : Hall.ords (rows.map spn) ≠ [] := c.mp fun f l h0 h1 h2 => by rw [← ins_cnt]; exact h f l h0 h1 h2
    simp [Z.isNon, this]
  · rw [e]
    have : ¬ Hall.ords (rows.map spn) ≠ [] := fun q => by
      have := c.mpr q f l f0 fl l60
      rw [← ins_cnt] at this
      omega
    simp only [Z.isNon, Option.some.injEq]
    exact (decide_eq_false this).symm
def CInv (s : D) (es : List D) (τ : Tau) (S : Sto) : Prop := (∀ d ∈ es, ∃ c : Int, d = .int c) ∧ ∃ a b c d e f : Option D, τ = [some s, a, b, c, d, e, f]
def UInv (s : D) (l : Nat) (es0 : List D) (es : List D) (τ : Tau) (S : Sto) : Prop := (∀ d ∈ es, ∃ c : Int, d = .int c ∧ 0 ≤ c ∧ c < 6) ∧ Pen l S ∧ (∀ d ∈ es0, ∃ c : Int, d = .int c) ∧ ∃ a c d e f : Option D, τ = [some s, a, some (.loc l), c, d, e, f]
def TInv (s : D) (l : Nat) (rows : List D) (es0 : List D) (es1 : List D) (es : List D) (τ : Tau) (S : Sto) : Prop := (∀ d ∈ es, GD d) ∧ Pen l S ∧ (∀ d ∈ es0, ∃ c : Int, d = .int c) ∧ (∀ d ∈ es1, ∃ c : Int, d = .int c ∧ 0 ≤ c ∧ c < 6) ∧ ∃ a c e f : Option D, τ = [some s, a, some (.loc l), c, some (.tup rows), e, f]
theorem law_wp (ns : List Int) (h : ns.length ≤ 63) : wpR (m_law [.scr (ns.map D.int)] []) fun d _ => d = .bl true := by
  unfold m_law
  simp only [draw_eq, x_run, List.length_cons, List.length_nil, true_and, wpS_seq]
  simp [hz]
  refine cell_wp (by omega) fun c0 => ?_
  refine ⟨by have := cutD_len (ds := ns.map D.int) (lo := some 1) (hi := some 2); simp at this; omega, ?_⟩
  refine for_wp (CInv (.scr (ns.map D.int))) ?_ ?_ _ _ _ ⟨?_, _, _, _, _, _, _, rfl⟩
  · rintro d es τ S ⟨he, a, b, c, d2, e, f, rfl⟩
    obtain ⟨c1, rfl⟩ := he d (by simp)
    have he' : ∀ d ∈ es, ∃ c : Int, d = .int c := fun d hd => he d (by simp [hd])
    refine ⟨_, rfl, ?_⟩
    simp
    refine pen_wp fun S1 p1 => ?_
    generalize S.length = l at p1
    simp [range1]
    refine for_wp (UInv (.scr (ns.map D.int)) l es) ?_ ?_ _ _ _ ⟨?_, p1, he', _, _, _, _, _, rfl⟩
    · rintro d es1 τ S2 ⟨ht, p2, _, a0, c, d2, e, f, rfl⟩
      obtain ⟨k, rfl, k0, k1⟩ := ht d (by simp)
      have ht' : ∀ d ∈ es1, ∃ c : Int, d = .int c ∧ 0 ≤ c ∧ c < 6 := fun d hd => ht d (by simp [hd])
      refine ⟨_, rfl, ?_⟩
      simp [hz]
      refine draw_wp p2 (by omega) (by omega) fun r3 S3 a3 b3 p3 f3 => ?_
      simp only [x_ixL, wpR_ofO]
      refine pick (fun d => ∃ w : Int, d = .int w ∧ 0 < w ∧ w ≤ 5) (by simp) a3 (by simpa using b3) ?_
      rintro _ ⟨w, rfl, w0, w1⟩
      refine docket_wp p3 (by omega) (by omega) w0 w1 fun rows S4 hrl hr p4 => ?_
      have hl1 : 1 ≤ rows.length := by omega
      have hl6 : rows.length ≤ 6 := by omega
      have gr : GD (.tup rows) := .inl (up4 (Gd_tup (k := 2) (by omega) fun d hd => (hr d hd).gd) (by decide))
      have hk : dck (.tup rows) = true := by
        have : rows.all her = true := List.all_eq_true.mpr fun d hd => (hr d hd).her
        simp [dck, hl1, hl6, this]
      have hn := fun S => need_wp hk gr.has (GD_short2 gr) S
      have hco : ∀ S, m_crowd_of [.tup rows] S = .ok (fc rows) S := fun S => by
        refine wp_eq ?_
        unfold m_crowd_of
        simp [hn, least_in hr hl6]
      have gfc := fc_GD (rows := rows) hl6
      obtain ⟨rf, erf⟩ := repr_wp (S := S4) gfc
      have tail : ∀ S5, Pen l S5 → wpR (m_law_things [.loc l, .tup rows] S5) fun a S => wpR (dAdd a (.lst [fc rows]) S) fun a S => ∃ a_1, itemsOf a S = some a_1 ∧ wpS (forL a_1.keep (Tgt.nm 6) (sIf (mB (mBin dNe (mCall dRepr (aCons (mCall m_crowd_holds (aCons (mVar 4) (aCons (mVar 6) aNil))) aNil)) (mCall dRepr (aCons (mCall m_law_is_crowd (aCons (mVar 4) (aCons (mVar 6) aNil))) aNil)))) (sRet (mC (.bl false))) sNil) a_1.ds ([some (.scr (ns.map D.int)), a0, some (.loc l), some (.int k), some (.tup rows), some (fc rows), f] : List (Option D)) S) (fun τ S => UInv (.scr (ns.map D.int)) l es es1 τ S) fun d _ => d = .bl true := fun S5 p5 => by
        refine things_wp p5 hr hl1 hl6 fun th S6 t1 t2 p6 => ?_
        simp [hz]
        refine ⟨by omega, ?_⟩
        refine for_wp (TInv (.scr (ns.map D.int)) l rows es es1) ?_ ?_ _ _ _ ⟨fun d hd => ?_, p6, he', ht', _, _, _, _, rfl⟩
        · rintro d es2 τ S9 ⟨hd, p9, _, _, a, c, e, f, rfl⟩
          refine ⟨_, rfl, ?_⟩
          have gd := hd d (by simp)
          obtain ⟨r1, e1⟩ := repr_bl (b := crw rows d) (S := S9)
          simp [crowd_prog hr hl6 hn gd.has (GD_parts gd), crowd_law hr hl6 gd.has (GD_parts gd), e1]
          exact ⟨fun d hd' => hd d (by simp [hd']), p9, he', ht', _, _, _, _, rfl⟩
        · rintro τ S9 ⟨hd, p9, _, _, a, c, e, f, rfl⟩
          exact ⟨ht', p9, he', _, _, _, _, _, rfl⟩
        · rcases List.mem_append.mp hd with hd | hd
          · exact t2 d hd
          · rw [List.mem_singleton.mp hd]; exact gfc
      simp [first_in hr hl6, hco, erf]
      refine ⟨fun h5 => ?_, fun _ => tail S4 p4⟩
      have en : dIsN false (fc rows) .non S4 = .ok (.bl (decide (Hall.ords (rows.map spn) ≠ []))) S4 := by
        simp only [dIsN, fc_ords hr]
        rfl
      rw [en, wpR_ok]
      refine orders_wp p4 hr (by omega) fun x S5 hx p5 => ?_
      rw [ne_nil hx, wpR_ok, x_neB, wpR_ok]
      have eb : ∀ b : Bool, (!(b == b)) = false := fun b => by cases b <;> rfl
      rw [eb]
      exact ⟨rfl, fun _ => tail S5 p5⟩
    · rintro τ S2 ⟨ht, p2, _, a, c, d2, e, f, rfl⟩
      exact ⟨he', _, _, _, _, _, _, rfl⟩
    · intro d hd
      simp at hd
      obtain ⟨k, hk, rfl⟩ := hd
      exact ⟨_, rfl, by omega, by omega⟩
  · rintro τ S ⟨he, a, b, c, d2, e, f, rfl⟩
    simp
  · intro d hd
    rcases List.mem_cons.mp hd with rfl | hd
    · exact ⟨_, rfl⟩
    · obtain ⟨x, _, rfl⟩ := List.mem_map.mp (cutD_mem hd)
      exact ⟨_, rfl⟩
theorem law_true : ∀ ns : List Int, ns.length ≤ 63 → ∃ S', m_law [.scr (ns.map D.int)] [] = .ok (.bl true) S' := fun ns h => by
  obtain ⟨a, S, e, rfl⟩ := wpR_get (law_wp ns h)
  exact ⟨S, e⟩
end Lk74

/-! the end -/
namespace Lk74
open PySem L2 Z PyProof.Rows
theorem all_mk {l : PySem.W.OpenLaw} {w : World} {K : PySem.W.Frag} {h : Heap} {mg : Str → Option Value} {fa : Addr} (X : K.In h) (G : h.Ns mainGlobals mg) (hfa : mg "law" = some (.ref fa))
    {f0 : Addr} {oc0 kV0 dc0 pm0 cd0 ct0 : Value} {od0 an0 : Option Addr} {sl0 : Array (Option Value)} (a0 : PySem.W.nsIn K mainGlobals "is_within" = some (some (.ref f0))) (l0 : K.lookup f0 = some ⟨oc0, od0, .func (PySem.W.fnOf "is_within" "is_within" (defArgs (top 6)) (defBody (top 6)) (defScope (top 6)) .none kV0 dc0 pm0 an0 cd0 ct0), sl0⟩) (c0 : PySem.W.codeIn K cd0 "is_within" = true) (k0 : PySem.W.keepIn K (.ref f0) = true)
    {f1 : Addr} {oc1 kV1 dc1 pm1 cd1 ct1 : Value} {od1 an1 : Option Addr} {sl1 : Array (Option Value)} (a1 : PySem.W.nsIn K mainGlobals "is_upto" = some (some (.ref f1))) (l1 : K.lookup f1 = some ⟨oc1, od1, .func (PySem.W.fnOf "is_upto" "is_upto" (defArgs (top 7)) (defBody (top 7)) (defScope (top 7)) .none kV1 dc1 pm1 an1 cd1 ct1), sl1⟩) (c1 : PySem.W.codeIn K cd1 "is_upto" = true) (k1 : PySem.W.keepIn K (.ref f1) = true)
    {f2 : Addr} {oc2 kV2 dc2 pm2 cd2 ct2 : Value} {od2 an2 : Option Addr} {sl2 : Array (Option Value)} (a2 : PySem.W.nsIn K mainGlobals "are_persons" = some (some (.ref f2))) (l2 : K.lookup f2 = some ⟨oc2, od2, .func (PySem.W.fnOf "are_persons" "are_persons" (defArgs (top 11)) (defBody (top 11)) (defScope (top 11)) .none kV2 dc2 pm2 an2 cd2 ct2), sl2⟩) (c2 : PySem.W.codeIn K cd2 "are_persons" = true) (k2 : PySem.W.keepIn K (.ref f2) = true)
    {f3 : Addr} {oc3 kV3 dc3 pm3 cd3 ct3 : Value} {od3 an3 : Option Addr} {sl3 : Array (Option Value)} (a3 : PySem.W.nsIn K mainGlobals "is_hearing" = some (some (.ref f3))) (l3 : K.lookup f3 = some ⟨oc3, od3, .func (PySem.W.fnOf "is_hearing" "is_hearing" (defArgs (top 12)) (defBody (top 12)) (defScope (top 12)) .none kV3 dc3 pm3 an3 cd3 ct3), sl3⟩) (c3 : PySem.W.codeIn K cd3 "is_hearing" = true) (k3 : PySem.W.keepIn K (.ref f3) = true)
    {f4 : Addr} {oc4 kV4 dc4 pm4 cd4 ct4 : Value} {od4 an4 : Option Addr} {sl4 : Array (Option Value)} (a4 : PySem.W.nsIn K mainGlobals "is_docket" = some (some (.ref f4))) (l4 : K.lookup f4 = some ⟨oc4, od4, .func (PySem.W.fnOf "is_docket" "is_docket" (defArgs (top 13)) (defBody (top 13)) (defScope (top 13)) .none kV4 dc4 pm4 an4 cd4 ct4), sl4⟩) (c4 : PySem.W.codeIn K cd4 "is_docket" = true) (k4 : PySem.W.keepIn K (.ref f4) = true)
    {f5 : Addr} {oc5 kV5 dc5 pm5 cd5 ct5 : Value} {od5 an5 : Option Addr} {sl5 : Array (Option Value)} (a5 : PySem.W.nsIn K mainGlobals "need_docket" = some (some (.ref f5))) (l5 : K.lookup f5 = some ⟨oc5, od5, .func (PySem.W.fnOf "need_docket" "need_docket" (defArgs (top 14)) (defBody (top 14)) (defScope (top 14)) .none kV5 dc5 pm5 an5 cd5 ct5), sl5⟩) (c5 : PySem.W.codeIn K cd5 "need_docket" = true) (k5 : PySem.W.keepIn K (.ref f5) = true)
    {f6 : Addr} {oc6 kV6 dc6 pm6 cd6 ct6 : Value} {od6 an6 : Option Addr} {sl6 : Array (Option Value)} (a6 : PySem.W.nsIn K mainGlobals "within" = some (some (.ref f6))) (l6 : K.lookup f6 = some ⟨oc6, od6, .func (PySem.W.fnOf "within" "within" (defArgs (top 15)) (defBody (top 15)) (defScope (top 15)) .none kV6 dc6 pm6 an6 cd6 ct6), sl6⟩) (c6 : PySem.W.codeIn K cd6 "within" = true) (k6 : PySem.W.keepIn K (.ref f6) = true)
    {f7 : Addr} {oc7 kV7 dc7 pm7 cd7 ct7 : Value} {od7 an7 : Option Addr} {sl7 : Array (Option Value)} (a7 : PySem.W.nsIn K mainGlobals "crowd_holds" = some (some (.ref f7))) (l7 : K.lookup f7 = some ⟨oc7, od7, .func (PySem.W.fnOf "crowd_holds" "crowd_holds" (defArgs (top 16)) (defBody (top 16)) (defScope (top 16)) .none kV7 dc7 pm7 an7 cd7 ct7), sl7⟩) (c7 : PySem.W.codeIn K cd7 "crowd_holds" = true) (k7 : PySem.W.keepIn K (.ref f7) = true)
    {f8 : Addr} {oc8 kV8 dc8 pm8 cd8 ct8 : Value} {od8 an8 : Option Addr} {sl8 : Array (Option Value)} (a8 : PySem.W.nsIn K mainGlobals "least_crowd" = some (some (.ref f8))) (l8 : K.lookup f8 = some ⟨oc8, od8, .func (PySem.W.fnOf "least_crowd" "least_crowd" (defArgs (top 17)) (defBody (top 17)) (defScope (top 17)) .none kV8 dc8 pm8 an8 cd8 ct8), sl8⟩) (c8 : PySem.W.codeIn K cd8 "least_crowd" = true) (k8 : PySem.W.keepIn K (.ref f8) = true)
    {f9 : Addr} {oc9 kV9 dc9 pm9 cd9 ct9 : Value} {od9 an9 : Option Addr} {sl9 : Array (Option Value)} (a9 : PySem.W.nsIn K mainGlobals "crowd_of" = some (some (.ref f9))) (l9 : K.lookup f9 = some ⟨oc9, od9, .func (PySem.W.fnOf "crowd_of" "crowd_of" (defArgs (top 18)) (defBody (top 18)) (defScope (top 18)) .none kV9 dc9 pm9 an9 cd9 ct9), sl9⟩) (c9 : PySem.W.codeIn K cd9 "crowd_of" = true) (k9 : PySem.W.keepIn K (.ref f9) = true)
    {f10 : Addr} {oc10 kV10 dc10 pm10 cd10 ct10 : Value} {od10 an10 : Option Addr} {sl10 : Array (Option Value)} (a10 : PySem.W.nsIn K mainGlobals "_law_cell" = some (some (.ref f10))) (l10 : K.lookup f10 = some ⟨oc10, od10, .func (PySem.W.fnOf "_law_cell" "_law_cell" (defArgs (top 20)) (defBody (top 20)) (defScope (top 20)) .none kV10 dc10 pm10 an10 cd10 ct10), sl10⟩) (c10 : PySem.W.codeIn K cd10 "_law_cell" = true) (k10 : PySem.W.keepIn K (.ref f10) = true)
    {f11 : Addr} {oc11 kV11 dc11 pm11 cd11 ct11 : Value} {od11 an11 : Option Addr} {sl11 : Array (Option Value)} (a11 : PySem.W.nsIn K mainGlobals "_law_pen" = some (some (.ref f11))) (l11 : K.lookup f11 = some ⟨oc11, od11, .func (PySem.W.fnOf "_law_pen" "_law_pen" (defArgs (top 21)) (defBody (top 21)) (defScope (top 21)) .none kV11 dc11 pm11 an11 cd11 ct11), sl11⟩) (c11 : PySem.W.codeIn K cd11 "_law_pen" = true) (k11 : PySem.W.keepIn K (.ref f11) = true)
    {f12 : Addr} {oc12 kV12 dc12 pm12 cd12 ct12 : Value} {od12 an12 : Option Addr} {sl12 : Array (Option Value)} (a12 : PySem.W.nsIn K mainGlobals "_law_draw" = some (some (.ref f12))) (l12 : K.lookup f12 = some ⟨oc12, od12, .func (PySem.W.fnOf "_law_draw" "_law_draw" (defArgs (top 22)) (defBody (top 22)) (defScope (top 22)) .none kV12 dc12 pm12 an12 cd12 ct12), sl12⟩) (c12 : PySem.W.codeIn K cd12 "_law_draw" = true) (k12 : PySem.W.keepIn K (.ref f12) = true)
    {f13 : Addr} {oc13 kV13 dc13 pm13 cd13 ct13 : Value} {od13 an13 : Option Addr} {sl13 : Array (Option Value)} (a13 : PySem.W.nsIn K mainGlobals "_law_below" = some (some (.ref f13))) (l13 : K.lookup f13 = some ⟨oc13, od13, .func (PySem.W.fnOf "_law_below" "_law_below" (defArgs (top 23)) (defBody (top 23)) (defScope (top 23)) .none kV13 dc13 pm13 an13 cd13 ct13), sl13⟩) (c13 : PySem.W.codeIn K cd13 "_law_below" = true) (k13 : PySem.W.keepIn K (.ref f13) = true)
    {f14 : Addr} {oc14 kV14 dc14 pm14 cd14 ct14 : Value} {od14 an14 : Option Addr} {sl14 : Array (Option Value)} (a14 : PySem.W.nsIn K mainGlobals "_law_persons" = some (some (.ref f14))) (l14 : K.lookup f14 = some ⟨oc14, od14, .func (PySem.W.fnOf "_law_persons" "_law_persons" (defArgs (top 24)) (defBody (top 24)) (defScope (top 24)) .none kV14 dc14 pm14 an14 cd14 ct14), sl14⟩) (c14 : PySem.W.codeIn K cd14 "_law_persons" = true) (k14 : PySem.W.keepIn K (.ref f14) = true)
    {f15 : Addr} {oc15 kV15 dc15 pm15 cd15 ct15 : Value} {od15 an15 : Option Addr} {sl15 : Array (Option Value)} (a15 : PySem.W.nsIn K mainGlobals "_law_docket" = some (some (.ref f15))) (l15 : K.lookup f15 = some ⟨oc15, od15, .func (PySem.W.fnOf "_law_docket" "_law_docket" (defArgs (top 25)) (defBody (top 25)) (defScope (top 25)) .none kV15 dc15 pm15 an15 cd15 ct15), sl15⟩) (c15 : PySem.W.codeIn K cd15 "_law_docket" = true) (k15 : PySem.W.keepIn K (.ref f15) = true)
    {f16 : Addr} {oc16 kV16 dc16 pm16 cd16 ct16 : Value} {od16 an16 : Option Addr} {sl16 : Array (Option Value)} (a16 : PySem.W.nsIn K mainGlobals "_law_orders" = some (some (.ref f16))) (l16 : K.lookup f16 = some ⟨oc16, od16, .func (PySem.W.fnOf "_law_orders" "_law_orders" (defArgs (top 26)) (defBody (top 26)) (defScope (top 26)) .none kV16 dc16 pm16 an16 cd16 ct16), sl16⟩) (c16 : PySem.W.codeIn K cd16 "_law_orders" = true) (k16 : PySem.W.keepIn K (.ref f16) = true)
    {f17 : Addr} {oc17 kV17 dc17 pm17 cd17 ct17 : Value} {od17 an17 : Option Addr} {sl17 : Array (Option Value)} (a17 : PySem.W.nsIn K mainGlobals "_law_inside" = some (some (.ref f17))) (l17 : K.lookup f17 = some ⟨oc17, od17, .func (PySem.W.fnOf "_law_inside" "_law_inside" (defArgs (top 27)) (defBody (top 27)) (defScope (top 27)) .none kV17 dc17 pm17 an17 cd17 ct17), sl17⟩) (c17 : PySem.W.codeIn K cd17 "_law_inside" = true) (k17 : PySem.W.keepIn K (.ref f17) = true)
    {f18 : Addr} {oc18 kV18 dc18 pm18 cd18 ct18 : Value} {od18 an18 : Option Addr} {sl18 : Array (Option Value)} (a18 : PySem.W.nsIn K mainGlobals "_law_first_crowd" = some (some (.ref f18))) (l18 : K.lookup f18 = some ⟨oc18, od18, .func (PySem.W.fnOf "_law_first_crowd" "_law_first_crowd" (defArgs (top 28)) (defBody (top 28)) (defScope (top 28)) .none kV18 dc18 pm18 an18 cd18 ct18), sl18⟩) (c18 : PySem.W.codeIn K cd18 "_law_first_crowd" = true) (k18 : PySem.W.keepIn K (.ref f18) = true)
    {f19 : Addr} {oc19 kV19 dc19 pm19 cd19 ct19 : Value} {od19 an19 : Option Addr} {sl19 : Array (Option Value)} (a19 : PySem.W.nsIn K mainGlobals "_law_is_crowd" = some (some (.ref f19))) (l19 : K.lookup f19 = some ⟨oc19, od19, .func (PySem.W.fnOf "_law_is_crowd" "_law_is_crowd" (defArgs (top 29)) (defBody (top 29)) (defScope (top 29)) .none kV19 dc19 pm19 an19 cd19 ct19), sl19⟩) (c19 : PySem.W.codeIn K cd19 "_law_is_crowd" = true) (k19 : PySem.W.keepIn K (.ref f19) = true)
    {f20 : Addr} {oc20 kV20 dc20 pm20 cd20 ct20 : Value} {od20 an20 : Option Addr} {sl20 : Array (Option Value)} (a20 : PySem.W.nsIn K mainGlobals "_law_things" = some (some (.ref f20))) (l20 : K.lookup f20 = some ⟨oc20, od20, .func (PySem.W.fnOf "_law_things" "_law_things" (defArgs (top 30)) (defBody (top 30)) (defScope (top 30)) .none kV20 dc20 pm20 an20 cd20 ct20), sl20⟩) (c20 : PySem.W.codeIn K cd20 "_law_things" = true) (k20 : PySem.W.keepIn K (.ref f20) = true)
    {f21 : Addr} {oc21 kV21 dc21 pm21 cd21 ct21 : Value} {od21 an21 : Option Addr} {sl21 : Array (Option Value)} (a21 : PySem.W.nsIn K mainGlobals "law" = some (some (.ref f21))) (l21 : K.lookup f21 = some ⟨oc21, od21, .func (PySem.W.fnOf "law" "law" (defArgs (top 31)) (defBody (top 31)) (defScope (top 31)) .none kV21 dc21 pm21 an21 cd21 ct21), sl21⟩) (c21 : PySem.W.codeIn K cd21 "law" = true) (k21 : PySem.W.keepIn K (.ref f21) = true)
    (z_all : PySem.W.nsIn K mainGlobals "all" = some none)
    (z_bool : PySem.W.nsIn K mainGlobals "bool" = some none)
    (z_divmod : PySem.W.nsIn K mainGlobals "divmod" = some none)
    (z_enumerate : PySem.W.nsIn K mainGlobals "enumerate" = some none)
    (z_int : PySem.W.nsIn K mainGlobals "int" = some none)
    (z_isinstance : PySem.W.nsIn K mainGlobals "isinstance" = some none)
    (z_len : PySem.W.nsIn K mainGlobals "len" = some none)
    (z_list : PySem.W.nsIn K mainGlobals "list" = some none)
    (z_max : PySem.W.nsIn K mainGlobals "max" = some none)
    (z_min : PySem.W.nsIn K mainGlobals "min" = some none)
    (z_range : PySem.W.nsIn K mainGlobals "range" = some none)
    (z_repr : PySem.W.nsIn K mainGlobals "repr" = some none)
    (z_set : PySem.W.nsIn K mainGlobals "set" = some none)
    (z_sorted : PySem.W.nsIn K mainGlobals "sorted" = some none)
    (z_tuple : PySem.W.nsIn K mainGlobals "tuple" = some none)
    (z_zip : PySem.W.nsIn K mainGlobals "zip" = some none)
    {t_DAYS : Tok} (z_DAYS : PySem.W.nsIn K mainGlobals "DAYS" = some (some (.int 61 t_DAYS)))
    {t_MOST_BEHIND : Tok} (z_MOST_BEHIND : PySem.W.nsIn K mainGlobals "MOST_BEHIND" = some (some (.int 9 t_MOST_BEHIND)))
    {t_MOST_HEARINGS : Tok} (z_MOST_HEARINGS : PySem.W.nsIn K mainGlobals "MOST_HEARINGS" = some (some (.int 6 t_MOST_HEARINGS)))
    {t_PERSONS : Tok} (z_PERSONS : PySem.W.nsIn K mainGlobals "PERSONS" = some (some (.int 6 t_PERSONS)))
    : ∃ (fd : FuncData) (f : List D → Sto → R D), (∀ (s : Shared) (u : Value), BindsTo s fd ⟨[u], []⟩ [("_law_script", u)]) ∧ (∀ base : Heap, K.In base → base.Ns mainGlobals mg → FnG l.prog w K mg base 8 fa fd ["_law_script"] f) ∧ ∀ ns : List Int, ns.length ≤ 63 → ∃ S', f [.scr (ns.map D.int)] [] = .ok (.bl true) S' := by
  have e := hfa.symm.trans (PySem.W.mg_of X G a21)
  cases e
  let T : Tx K mg := {
    a_is_within := f0
    fd_is_within := _
    F_is_within := fun_mk (st := top 6) l0 c0 k0
    g_is_within := PySem.W.mg_of X G a0
    b_is_within := (fun_mk (st := top 6) l0 c0 k0).binds (ps := ["thing", "least", "most"]) fun _ _ _ _ _ _ us hl => match us, hl with | [_, _, _], _ => rfl
    a_is_upto := f1
    fd_is_upto := _
    F_is_upto := fun_mk (st := top 7) l1 c1 k1
    g_is_upto := PySem.W.mg_of X G a1
    b_is_upto := (fun_mk (st := top 7) l1 c1 k1).binds (ps := ["thing", "many"]) fun _ _ _ _ _ _ us hl => match us, hl with | [_, _], _ => rfl
    a_are_persons := f2
    fd_are_persons := _
    F_are_persons := fun_mk (st := top 11) l2 c2 k2
    g_are_persons := PySem.W.mg_of X G a2
    b_are_persons := (fun_mk (st := top 11) l2 c2 k2).binds (ps := ["thing"]) fun _ _ _ _ _ _ us hl => match us, hl with | [_], _ => rfl
    a_is_hearing := f3
    fd_is_hearing := _
    F_is_hearing := fun_mk (st := top 12) l3 c3 k3
    g_is_hearing := PySem.W.mg_of X G a3
    b_is_hearing := (fun_mk (st := top 12) l3 c3 k3).binds (ps := ["thing"]) fun _ _ _ _ _ _ us hl => match us, hl with | [_], _ => rfl
    a_is_docket := f4
    fd_is_docket := _
    F_is_docket := fun_mk (st := top 13) l4 c4 k4
    g_is_docket := PySem.W.mg_of X G a4
    b_is_docket := (fun_mk (st := top 13) l4 c4 k4).binds (ps := ["thing"]) fun _ _ _ _ _ _ us hl => match us, hl with | [_], _ => rfl
    a_need_docket := f5
    fd_need_docket := _
    F_need_docket := fun_mk (st := top 14) l5 c5 k5
    g_need_docket := PySem.W.mg_of X G a5
    b_need_docket := (fun_mk (st := top 14) l5 c5 k5).binds (ps := ["thing"]) fun _ _ _ _ _ _ us hl => match us, hl with | [_], _ => rfl
    a_within := f6
    fd_within := _
    F_within := fun_mk (st := top 15) l6 c6 k6
    g_within := PySem.W.mg_of X G a6
    b_within := (fun_mk (st := top 15) l6 c6 k6).binds (ps := ["docket", "first", "last"]) fun _ _ _ _ _ _ us hl => match us, hl with | [_, _, _], _ => rfl
    a_crowd_holds := f7
    fd_crowd_holds := _
    F_crowd_holds := fun_mk (st := top 16) l7 c7 k7
    g_crowd_holds := PySem.W.mg_of X G a7
    b_crowd_holds := (fun_mk (st := top 16) l7 c7 k7).binds (ps := ["docket", "thing"]) fun _ _ _ _ _ _ us hl => match us, hl with | [_, _], _ => rfl
    a_least_crowd := f8
    fd_least_crowd := _
    F_least_crowd := fun_mk (st := top 17) l8 c8 k8
    g_least_crowd := PySem.W.mg_of X G a8
    b_least_crowd := (fun_mk (st := top 17) l8 c8 k8).binds (ps := ["docket"]) fun _ _ _ _ _ _ us hl => match us, hl with | [_], _ => rfl
    a_crowd_of := f9
    fd_crowd_of := _
    F_crowd_of := fun_mk (st := top 18) l9 c9 k9
    g_crowd_of := PySem.W.mg_of X G a9
    b_crowd_of := (fun_mk (st := top 18) l9 c9 k9).binds (ps := ["docket"]) fun _ _ _ _ _ _ us hl => match us, hl with | [_], _ => rfl
    a_law_cell := f10
    fd_law_cell := _
    F_law_cell := fun_mk (st := top 20) l10 c10 k10
    g_law_cell := PySem.W.mg_of X G a10
    b_law_cell := (fun_mk (st := top 20) l10 c10 k10).binds (ps := ["_law_script", "_law_k"]) fun _ _ _ _ _ _ us hl => match us, hl with | [_, _], _ => rfl
    a_law_pen := f11
    fd_law_pen := _
    F_law_pen := fun_mk (st := top 21) l11 c11 k11
    g_law_pen := PySem.W.mg_of X G a11
    b_law_pen := (fun_mk (st := top 21) l11 c11 k11).binds (ps := ["_law_cell_here"]) fun _ _ _ _ _ _ us hl => match us, hl with | [_], _ => rfl
    a_law_draw := f12
    fd_law_draw := _
    F_law_draw := fun_mk (st := top 22) l12 c12 k12
    g_law_draw := PySem.W.mg_of X G a12
    b_law_draw := (fun_mk (st := top 22) l12 c12 k12).binds (ps := ["_law_pen_here", "_law_many"]) fun _ _ _ _ _ _ us hl => match us, hl with | [_, _], _ => rfl
    a_law_below := f13
    fd_law_below := _
    F_law_below := fun_mk (st := top 23) l13 c13 k13
    g_law_below := PySem.W.mg_of X G a13
    b_law_below := (fun_mk (st := top 23) l13 c13 k13).binds (ps := ["_law_thing", "_law_many"]) fun _ _ _ _ _ _ us hl => match us, hl with | [_, _], _ => rfl
    a_law_persons := f14
    fd_law_persons := _
    F_law_persons := fun_mk (st := top 24) l14 c14 k14
    g_law_persons := PySem.W.mg_of X G a14
    b_law_persons := (fun_mk (st := top 24) l14 c14 k14).binds (ps := ["_law_pen_here"]) fun _ _ _ _ _ _ us hl => match us, hl with | [_], _ => rfl
    a_law_docket := f15
    fd_law_docket := _
    F_law_docket := fun_mk (st := top 25) l15 c15 k15
    g_law_docket := PySem.W.mg_of X G a15
    b_law_docket := (fun_mk (st := top 25) l15 c15 k15).binds (ps := ["_law_pen_here", "_law_many", "_law_wide"]) fun _ _ _ _ _ _ us hl => match us, hl with | [_, _, _], _ => rfl
    a_law_orders := f16
    fd_law_orders := _
    F_law_orders := fun_mk (st := top 26) l16 c16 k16
    g_law_orders := PySem.W.mg_of X G a16
    b_law_orders := (fun_mk (st := top 26) l16 c16 k16).binds (ps := ["_law_docket_here"]) fun _ _ _ _ _ _ us hl => match us, hl with | [_], _ => rfl
    a_law_inside := f17
    fd_law_inside := _
    F_law_inside := fun_mk (st := top 27) l17 c17 k17
    g_law_inside := PySem.W.mg_of X G a17
    b_law_inside := (fun_mk (st := top 27) l17 c17 k17).binds (ps := ["_law_docket_here", "_law_first", "_law_last"]) fun _ _ _ _ _ _ us hl => match us, hl with | [_, _, _], _ => rfl
    a_law_first_crowd := f18
    fd_law_first_crowd := _
    F_law_first_crowd := fun_mk (st := top 28) l18 c18 k18
    g_law_first_crowd := PySem.W.mg_of X G a18
    b_law_first_crowd := (fun_mk (st := top 28) l18 c18 k18).binds (ps := ["_law_docket_here"]) fun _ _ _ _ _ _ us hl => match us, hl with | [_], _ => rfl
    a_law_is_crowd := f19
    fd_law_is_crowd := _
    F_law_is_crowd := fun_mk (st := top 29) l19 c19 k19
    g_law_is_crowd := PySem.W.mg_of X G a19
    b_law_is_crowd := (fun_mk (st := top 29) l19 c19 k19).binds (ps := ["_law_docket_here", "_law_thing"]) fun _ _ _ _ _ _ us hl => match us, hl with | [_, _], _ => rfl
    a_law_things := f20
    fd_law_things := _
    F_law_things := fun_mk (st := top 30) l20 c20 k20
    g_law_things := PySem.W.mg_of X G a20
    b_law_things := (fun_mk (st := top 30) l20 c20 k20).binds (ps := ["_law_pen_here", "_law_docket_here"]) fun _ _ _ _ _ _ us hl => match us, hl with | [_, _], _ => rfl
    a_law := fa
    fd_law := _
    F_law := fun_mk (st := top 31) l21 c21 k21
    g_law := PySem.W.mg_of X G a21
    b_law := (fun_mk (st := top 31) l21 c21 k21).binds (ps := ["_law_script"]) fun _ _ _ _ _ _ us hl => match us, hl with | [_], _ => rfl
    n_all := PySem.W.mg_none_of X G z_all
    n_bool := PySem.W.mg_none_of X G z_bool
    n_divmod := PySem.W.mg_none_of X G z_divmod
    n_enumerate := PySem.W.mg_none_of X G z_enumerate
    n_int := PySem.W.mg_none_of X G z_int
    n_isinstance := PySem.W.mg_none_of X G z_isinstance
    n_len := PySem.W.mg_none_of X G z_len
    n_list := PySem.W.mg_none_of X G z_list
    n_max := PySem.W.mg_none_of X G z_max
    n_min := PySem.W.mg_none_of X G z_min
    n_range := PySem.W.mg_none_of X G z_range
    n_repr := PySem.W.mg_none_of X G z_repr
    n_set := PySem.W.mg_none_of X G z_set
    n_sorted := PySem.W.mg_none_of X G z_sorted
    n_tuple := PySem.W.mg_none_of X G z_tuple
    n_zip := PySem.W.mg_none_of X G z_zip
    c_DAYS := ⟨_, PySem.W.mg_of X G z_DAYS⟩
    c_MOST_BEHIND := ⟨_, PySem.W.mg_of X G z_MOST_BEHIND⟩
    c_MOST_HEARINGS := ⟨_, PySem.W.mg_of X G z_MOST_HEARINGS⟩
    c_PERSONS := ⟨_, PySem.W.mg_of X G z_PERSONS⟩ }
  exact ⟨T.fd_law, m_law, fun s v => .of_eq rfl, fun base _ _ => ok_law T, law_true⟩
end Lk74
open PySem PySem.W PyProof.Rows
set_option maxRecDepth 100000 in
set_option maxHeartbeats 0 in
theorem PySem.Challenge.cw_ridingbench_k74_crowds_holds : PySem.Challenge.rw_ridingbench_k74_crowds.Holds := by
  w_on; o_law; k_head; (case hw => w_witness2)
  k_fill
  refine Z.walk_G (l := PySem.Challenge.rw_ridingbench_k74_crowds) (n := 63) (k := 8) (x := "_law_script") rfl (by decide) rfl ⟨rfl, by decide, by decide⟩ (fun w h Y => PySem.W.kIn_of Y) ?F
  intro w mg fa h KX G hmg
  refine' Lk74.all_mk KX G hmg ?a0 ?l0 ?c0 ?k0 ?a1 ?l1 ?c1 ?k1 ?a2 ?l2 ?c2 ?k2 ?a3 ?l3 ?c3 ?k3 ?a4 ?l4 ?c4 ?k4 ?a5 ?l5 ?c5 ?k5 ?a6 ?l6 ?c6 ?k6 ?a7 ?l7 ?c7 ?k7 ?a8 ?l8 ?c8 ?k8 ?a9 ?l9 ?c9 ?k9 ?a10 ?l10 ?c10 ?k10 ?a11 ?l11 ?c11 ?k11 ?a12 ?l12 ?c12 ?k12 ?a13 ?l13 ?c13 ?k13 ?a14 ?l14 ?c14 ?k14 ?a15 ?l15 ?c15 ?k15 ?a16 ?l16 ?c16 ?k16 ?a17 ?l17 ?c17 ?k17 ?a18 ?l18 ?c18 ?k18 ?a19 ?l19 ?c19 ?k19 ?a20 ?l20 ?c20 ?k20 ?a21 ?l21 ?c21 ?k21 ?z_all ?z_bool ?z_divmod ?z_enumerate ?z_int ?z_isinstance ?z_len ?z_list ?z_max ?z_min ?z_range ?z_repr ?z_set ?z_sorted ?z_tuple ?z_zip ?z_DAYS ?z_MOST_BEHIND ?z_MOST_HEARINGS ?z_PERSONS
  (case a0 => k_is)
  (case l0 => k_is)
  (case c0 => k_is)
  (case k0 => k_is)
  (case a1 => k_is)
  (case l1 => k_is)
  (case c1 => k_is)
  (case k1 => k_is)
  (case a2 => k_is)
  (case l2 => k_is)
  (case c2 => k_is)
  (case k2 => k_is)
  (case a3 => k_is)
  (case l3 => k_is)
  (case c3 => k_is)
  (case k3 => k_is)
  (case a4 => k_is)
  (case l4 => k_is)
  (case c4 => k_is)
  (case k4 => k_is)
  (case a5 => k_is)
  (case l5 => k_is)
  (case c5 => k_is)
  (case k5 => k_is)
  (case a6 => k_is)
  (case l6 => k_is)
  (case c6 => k_is)
  (case k6 => k_is)
  (case a7 => k_is)
  (case l7 => k_is)
  (case c7 => k_is)
  (case k7 => k_is)
  (case a8 => k_is)
  (case l8 => k_is)
  (case c8 => k_is)
  (case k8 => k_is)
  (case a9 => k_is)
  (case l9 => k_is)
  (case c9 => k_is)
  (case k9 => k_is)
  (case a10 => k_is)
  (case l10 => k_is)
  (case c10 => k_is)
  (case k10 => k_is)
  (case a11 => k_is)
  (case l11 => k_is)
  (case c11 => k_is)
  (case k11 => k_is)
  (case a12 => k_is)
  (case l12 => k_is)
  (case c12 => k_is)
  (case k12 => k_is)
  (case a13 => k_is)
  (case l13 => k_is)
  (case c13 => k_is)
  (case k13 => k_is)
  (case a14 => k_is)
  (case l14 => k_is)
  (case c14 => k_is)
  (case k14 => k_is)
  (case a15 => k_is)
  (case l15 => k_is)
  (case c15 => k_is)
  (case k15 => k_is)
  (case a16 => k_is)
  (case l16 => k_is)
  (case c16 => k_is)
  (case k16 => k_is)
  (case a17 => k_is)
  (case l17 => k_is)
  (case c17 => k_is)
  (case k17 => k_is)
  (case a18 => k_is)
  (case l18 => k_is)
  (case c18 => k_is)
  (case k18 => k_is)
  (case a19 => k_is)
  (case l19 => k_is)
  (case c19 => k_is)
  (case k19 => k_is)
  (case a20 => k_is)
  (case l20 => k_is)
  (case c20 => k_is)
  (case k20 => k_is)
  (case a21 => k_is)
  (case l21 => k_is)
  (case c21 => k_is)
  (case k21 => k_is)
  (case z_all => k_is)
  (case z_bool => k_is)
  (case z_divmod => k_is)
  (case z_enumerate => k_is)
  (case z_int => k_is)
  (case z_isinstance => k_is)
  (case z_len => k_is)
  (case z_list => k_is)
  (case z_max => k_is)
  (case z_min => k_is)
  (case z_range => k_is)
  (case z_repr => k_is)
  (case z_set => k_is)
  (case z_sorted => k_is)
  (case z_tuple => k_is)
  (case z_zip => k_is)
  (case z_DAYS => k_is)
  (case z_MOST_BEHIND => k_is)
  (case z_MOST_HEARINGS => k_is)
  (case z_PERSONS => k_is)
