import PyProof.Rows.All
import Wide.All
import OpenK.AllK
import Wide.FinOn
import HandS.ForMost
import HandS.ForExc
import HandS.Walk
import HandS.CallSlots
import HandS.Zip
import HandS.IsInst
import HandS.TupAny
import HandS.Style
import HandS.Flow
import HandS.Lambda
import KE.DataEq
import KE.DataCmp
import KE.DataAny
import KE.DataIsa
import HandS.TupMul
import PyProof.ReprRoads
import HandS.Ends
import PyProof.ReprLen
import HandS.Strs
import HandS.SetFor
import KE.GoesEnum
import HandS.Iter
import HandS.ExcOwn
import HandS.ExcIs
import HandS.HotCalls
import HandS.EndOwn
import HandS.Conv
import HandS.TupSets
import KE.KDictKeyed
import KE.SortData
import PyProof.DictUpdate
import KE.GoesZip
import KE.DataFind
import HandS.SortInts
import PyProof.TupleOfSeq
import HandS.Rev
import HandS.Dict
import HandS.DictComp
import KE.KDictWalk
import PyProof.SeqIndex
import PySem.Challenge.RW_ridingbench_k12_reasons_that_hold_at_onc
set_option Elab.async false
set_option linter.all false
set_option maxRecDepth 100000
set_option maxHeartbeats 8000000
/-! Z1: data trees over the hand layer: values (D), the store (C), what stands for what (VR, SR, ER), answers (R), and how readings follow. -/
namespace Z
open PySem L2

/-- a thing: plain data as a tree; a changing thing by its place in the store -/
inductive D where
  | non | bl (b : Bool) | int (i : Int) | str (x : Str) | tup (ds : List D) | ktup (ds : List D) | lst (ds : List D) | scr (ds : List D) | dct (ks : List Key) (ds : List D) | loc (l : Nat) | ob (v : V) | fn (n : Str)
/-- a changing thing; a dict may be locked while a loop walks it -/
inductive C where
  | lst (ds : List D) | dK (lk : Bool) (kvs : List (Key × D)) | dT (lk : Bool) (kvs : List (List Key × D)) | ins (c : Str) (fs : List (Str × D)) | tab (P : Addr) (q : Str)
abbrev Sto := List C
abbrev Tau := List (Option D)

inductive R (A : Type) where
  | ok (a : A) (S : Sto) | ex (c : Str) (fs : List (Str × D)) (S : Sto) | bad
def R.bind {A B : Type} (o : R A) (f : A → Sto → R B) : R B := match o with
  | .ok a S => f a S
  | .ex c fs S => .ex c fs S
  | .bad => .bad
@[simp] theorem R.bind_ok {A B : Type} (a : A) (S : Sto) (f : A → Sto → R B) : (R.ok a S).bind f = f a S := rfl
@[simp] theorem R.bind_ex {A B : Type} (c fs) (S : Sto) (f : A → Sto → R B) : (R.ex c fs S).bind f = .ex c fs S := rfl
@[simp] theorem R.bind_bad {A B : Type} (f : A → Sto → R B) : (R.bad).bind f = .bad := rfl

/-- the addresses of the changing things: the store's by place; those that a comprehension under way fills -/
structure Pl where
  loc : List Addr
  hid : List Addr
instance : Membership Addr Pl := ⟨fun p a => a ∈ p.loc ∨ a ∈ p.hid⟩
theorem Pl.mem {ρ : Pl} {a : Addr} : a ∈ ρ ↔ a ∈ ρ.loc ∨ a ∈ ρ.hid := Iff.rfl
def Pl.push (ρ : Pl) (p : Addr) : Pl := ⟨ρ.loc ++ [p], ρ.hid⟩
def Pl.hide (ρ : Pl) (p : Addr) : Pl := ⟨ρ.loc, p :: ρ.hid⟩
def Pl.bare (ρ : Pl) (p : Addr) : Pl := ⟨ρ.loc, ρ.hid.filter fun a => decide (a ≠ p)⟩
theorem Pl.bare_sub {ρ : Pl} {p a : Addr} (h : a ∈ ρ.bare p) : a ∈ ρ := h.imp id fun z => (List.mem_filter.mp z).1
mutual
inductive VR (K : PySem.W.Frag) (ρ : Pl) (H : Hp) : V → D → Prop
  | non : VR K ρ H .non .non
  | bl (b : Bool) : VR K ρ H (.bl b) (.bl b)
  | int (i : Int) : VR K ρ H (.int i) (.int i)
  | str (x : Str) : VR K ρ H (.str x) (.str x)
  | tup {a : Addr} {xs : List V} {ds : List D} : H a = some (.tup xs) → a ∉ ρ → VRs K ρ H xs ds → VR K ρ H (.ref a) (.tup ds)
  | ktup {a : Addr} {xs : List V} {ds : List D} : (∀ H', SqT K H' a xs) → VRs K ρ H xs ds → VR K ρ H (.ref a) (.ktup ds)
  | lst {a : Addr} {xs : List V} {ds : List D} : H a = some (.lst xs) → a ∉ ρ → VRs K ρ H xs ds → VR K ρ H (.ref a) (.lst ds)
  | scr {a : Addr} {xs : List V} {ds : List D} : ((∃ o, H a = some (.frz o (.lst xs)) ∧ a ∉ ρ) ∨ ∀ H', SqL K H' a xs) → VRs K ρ H xs ds → VR K ρ H (.ref a) (.scr ds)
  | dct {a : Addr} {ws : List (Key × V)} {ks : List Key} {ds : List D} : H a = some (.dK ws) → a ∉ ρ → ws.map (·.1) = ks → VRs K ρ H (ws.map (·.2)) ds → VR K ρ H (.ref a) (.dct ks ds)
  | loc {a : Addr} {l : Nat} : ρ.loc[l]? = some a → VR K ρ H (.ref a) (.loc l)
  | ob (v : V) : VR K ρ H v (.ob v)
  | fn {a : Addr} {n : Str} : PySem.W.nsIn K mainGlobals n = some (some (.ref a)) → VR K ρ H (.ref a) (.fn n)
inductive VRs (K : PySem.W.Frag) (ρ : Pl) (H : Hp) : List V → List D → Prop
  | nil : VRs K ρ H [] []
  | cons {v : V} {vs : List V} {d : D} {ds : List D} : VR K ρ H v d → VRs K ρ H vs ds → VRs K ρ H (v :: vs) (d :: ds)
end
/-- pairs with keys -/
inductive KR {κ : Type} (P : V → D → Prop) : List (κ × V) → List (κ × D) → Prop
  | nil : KR P [] []
  | cons {k : κ} {v : V} {d : D} {vs : List (κ × V)} {ds : List (κ × D)} : P v d → KR P vs ds → KR P ((k, v) :: vs) ((k, d) :: ds)

/-- no table of code objects; nothing is tracked but such a table -/
def NT (o : HO) : Prop := ∀ ps, o ≠ .tbl ps
def FrT (H : Hp) (b : Addr) : Prop := ∀ o, H b = some o → ∃ ps, o = .tbl ps
theorem FrT.none {H : Hp} {b : Addr} (h : H b = none) : FrT H b := fun o e => by rw [h] at e; cases e
/-- neither table nor code object -/
def NH (o : HO) : Prop := NT o ∧ ∀ c q, o ≠ LamX.CodeO c q
theorem FrT.no {H : Hp} {b : Addr} {o : HO} (f : FrT H b) (e : H b = some o) (n : NT o) : False := by
  obtain ⟨ps, z⟩ := f o e
  exact n ps z
theorem nt_code {c : Addr} {q : Str} : NT (LamX.CodeO c q) := fun ps z => by
  unfold LamX.CodeO at z; cases z
/-- a class of the program by its name -/
def clsAt (K : PySem.W.Frag) (c : Str) : Value := match PySem.W.nsIn K mainGlobals c with
  | some (some v) => v
  | _ => .none
/-- a later heap, more places: what was tracked and is no changing thing of the store stands -/
structure Ext (ρ : Pl) (H : Hp) (ρ' : Pl) (H' : Hp) : Prop where
  pre : ∃ r, ρ'.loc = ρ.loc ++ r
  hid : ∀ p ∈ ρ.hid, p ∈ ρ'.hid
  newL : ∀ p ∈ ρ'.loc, p ∈ ρ.loc ∨ FrT H p
  newH : ∀ p ∈ ρ'.hid, p ∈ ρ.hid ∨ FrT H p
  keep : ∀ b o, H b = some o → NT o → b ∉ ρ.loc → H' b = some o
  live : ∀ b, FrT H' b → FrT H b
  frz : ∀ b o u, H b = some (.frz o u) → H' b = some (.frz o u)
/-- no thing that is locked -/
def NF (H : Hp) (p : Addr) : Prop := ∀ o u, H p ≠ some (.frz o u)
theorem NF.of {H : Hp} {p : Addr} {x : HO} (h : H p = some x) (n : ∀ o u, x ≠ .frz o u := by (intro o u z; cases z)) : NF H p := fun o u e => by
  rw [h] at e; exact n o u (Option.some.inj e)
theorem NF.none {H : Hp} {p : Addr} (h : H p = none) : NF H p := fun o u e => by rw [h] at e; cases e

section
variable {K : PySem.W.Frag} {ρ ρ' ρ'' : Pl} {H H' H'' : Hp} {S S' : Sto} {σ : St} {τ : Tau}
theorem Ext.refl : Ext ρ H ρ H := ⟨⟨[], by simp⟩, fun _ h => h, fun _ h => .inl h, fun _ h => .inl h, fun _ _ h _ _ => h, fun _ h => h, fun _ _ _ h => h⟩
theorem Ext.outL (e : Ext ρ H ρ' H') {b : Addr} {o : HO} (h : H b = some o) (hb : b ∉ ρ.loc) (n : NT o := by (intro ps z; cases z)) : b ∉ ρ'.loc := fun q => by
  rcases e.newL b q with z | z
  · exact hb z
  · exact z.no h n
theorem Ext.out (e : Ext ρ H ρ' H') {b : Addr} {o : HO} (h : H b = some o) (hb : b ∉ ρ) (n : NT o := by (intro ps z; cases z)) : b ∉ ρ' := fun q => by
  rcases q with q | q
  · exact e.outL h (fun z => hb (.inl z)) n q
  · rcases e.newH b q with z | z
    · exact hb (.inr z)
    · exact z.no h n
theorem Ext.trans (a : Ext ρ H ρ' H') (b : Ext ρ' H' ρ'' H'') : Ext ρ H ρ'' H'' where
  pre := by
    obtain ⟨r, e⟩ := a.pre
    obtain ⟨q, e2⟩ := b.pre
    exact ⟨r ++ q, by rw [e2, e]; simp⟩
  hid := fun p h => b.hid p (a.hid p h)
  newL := fun p hp => (b.newL p hp).elim (a.newL p) fun z => .inr (a.live p z)
  newH := fun p hp => (b.newH p hp).elim (a.newH p) fun z => .inr (a.live p z)
  keep := fun c o h n hc => b.keep c o (a.keep c o h n hc) n (a.outL h hc n)
  live := fun c h => a.live c (b.live c h)
  frz := fun c o u h => b.frz c o u (a.frz c o u h)
theorem Ext.get (e : Ext ρ H ρ' H') {l : Nat} {a : Addr} (h : ρ.loc[l]? = some a) : ρ'.loc[l]? = some a := by
  obtain ⟨r, e1⟩ := e.pre
  rw [e1, List.getElem?_append_left (List.getElem?_eq_some_iff.mp h).1]; exact h
theorem Ext.kp (e : Ext ρ H ρ' H') {b : Addr} {o : HO} (h : H b = some o) (hb : b ∉ ρ) (n : NT o := by (intro ps z; cases z)) : H' b = some o := e.keep b o h n fun z => hb (.inl z)
mutual
theorem VR.mono (e : Ext ρ H ρ' H') : ∀ {v : V} {d : D}, VR K ρ H v d → VR K ρ' H' v d
  | _, _, .non => .non
  | _, _, .bl b => .bl b
  | _, _, .int i => .int i
  | _, _, .str x => .str x
  | _, _, .tup h h2 hs => .tup (e.kp h h2) (e.out h h2) (VRs.mono e hs)
  | _, _, .ktup h hs => .ktup h (VRs.mono e hs)
  | _, _, .lst h h2 hs => .lst (e.kp h h2) (e.out h h2) (VRs.mono e hs)
  | _, _, .scr h hs => .scr (h.imp (fun ⟨o, h1, h2⟩ => ⟨o, e.kp h1 h2, e.out h1 h2⟩) id) (VRs.mono e hs)
  | _, _, .dct h h2 hk hs => .dct (e.kp h h2) (e.out h h2) hk (VRs.mono e hs)
  | _, _, .loc h => .loc (e.get h)
  | _, _, .ob v => .ob v
  | _, _, .fn h => .fn h
theorem VRs.mono (e : Ext ρ H ρ' H') : ∀ {vs : List V} {ds : List D}, VRs K ρ H vs ds → VRs K ρ' H' vs ds
  | _, _, .nil => .nil
  | _, _, .cons h hs => .cons (VR.mono e h) (VRs.mono e hs)
end
theorem VRs.length : ∀ {vs : List V} {ds : List D}, VRs K ρ H vs ds → vs.length = ds.length
  | _, _, .nil => rfl
  | _, _, .cons _ hs => by simp [VRs.length hs]
theorem VRs.get : ∀ {vs : List V} {ds : List D} {i : Nat} {d : D}, VRs K ρ H vs ds → ds[i]? = some d → ∃ v, vs[i]? = some v ∧ VR K ρ H v d
  | _, _, _, _, .nil, e => by simp at e
  | _, _, 0, _, .cons h _, e => by simp at e; subst e; exact ⟨_, rfl, h⟩
  | _, _, i + 1, d, .cons _ hs, e => by
    obtain ⟨v, h1, h2⟩ := VRs.get (i := i) (d := d) hs (by simpa using e)
    exact ⟨v, by simpa using h1, h2⟩
theorem VRs.getV : ∀ {vs : List V} {ds : List D} {i : Nat} {v : V}, VRs K ρ H vs ds → vs[i]? = some v → ∃ d, ds[i]? = some d ∧ VR K ρ H v d
  | _, _, _, _, .nil, e => by simp at e
  | _, _, 0, _, .cons h _, e => by simp at e; subst e; exact ⟨_, rfl, h⟩
  | _, _, i + 1, v, .cons _ hs, e => by
    obtain ⟨d, h1, h2⟩ := VRs.getV (i := i) (v := v) hs (by simpa using e)
    exact ⟨d, by simpa using h1, h2⟩
theorem VRs.append : ∀ {vs ws : List V} {ds es : List D}, VRs K ρ H vs ds → VRs K ρ H ws es → VRs K ρ H (vs ++ ws) (ds ++ es)
  | _, _, _, _, .nil, h => h
  | _, _, _, _, .cons h hs, g => .cons h (VRs.append hs g)
theorem VRs.take : ∀ {vs : List V} {ds : List D} (n : Nat), VRs K ρ H vs ds → VRs K ρ H (vs.take n) (ds.take n)
  | _, _, 0, _ => .nil
  | _, _, _ + 1, .nil => .nil
  | _, _, n + 1, .cons h hs => .cons h (VRs.take n hs)
theorem VRs.drop : ∀ {vs : List V} {ds : List D} (n : Nat), VRs K ρ H vs ds → VRs K ρ H (vs.drop n) (ds.drop n)
  | _, _, 0, h => h
  | _, _, _ + 1, .nil => .nil
  | _, _, n + 1, .cons _ hs => VRs.drop n hs
theorem VRs.set {x : V} {d : D} (r : VR K ρ H x d) : ∀ {vs : List V} {ds : List D} (n : Nat), VRs K ρ H vs ds → VRs K ρ H (vs.set n x) (ds.set n d)
  | _, _, _, .nil => .nil
  | _, _, 0, .cons _ hs => .cons r hs
  | _, _, n + 1, .cons h hs => .cons h (VRs.set r n hs)
theorem VRs.reverse {vs : List V} {ds : List D} (h : VRs K ρ H vs ds) : VRs K ρ H vs.reverse ds.reverse := by
  have g : ∀ (vs ws : List V) (ds es : List D), VRs K ρ H vs ds → VRs K ρ H ws es → VRs K ρ H (vs.reverseAux ws) (ds.reverseAux es) := by
    intro vs
    induction vs with
    | nil => intro ws ds es h g; cases h; exact g
    | cons a r ih => intro ws ds es h g; cases h with | cons h hs => exact (ih _ _ _ hs (.cons h g) :)
  exact g _ _ _ _ h .nil
theorem VRs.map_int (ns : List Int) : VRs K ρ H (ns.map V.int) (ns.map D.int) := by
  induction ns with
  | nil => exact .nil
  | cons a r ih => exact .cons (.int a) ih
theorem KR.length {κ : Type} {P : V → D → Prop} : ∀ {vs : List (κ × V)} {ds : List (κ × D)}, KR P vs ds → vs.length = ds.length
  | _, _, .nil => rfl
  | _, _, .cons _ hs => by simp [KR.length hs]
theorem KR.mono {κ : Type} {P P' : V → D → Prop} (e : ∀ v d, P v d → P' v d) : ∀ {vs : List (κ × V)} {ds : List (κ × D)}, KR P vs ds → KR P' vs ds
  | _, _, .nil => .nil
  | _, _, .cons h hs => .cons (e _ _ h) (KR.mono e hs)

/-- the table of code objects at P: each bears the name q, and is no changing thing of the store -/
def TabN (ρ : Pl) (H : Hp) (P : Addr) (q : Str) : Prop := ∃ ps : Array Value, H P = some (.tbl ps) ∧ TriplesOk ps.toList ∧ ∀ (pos : Pos) (cv : Value), codeAmong pos ps.toList = some cv → ∃ c, cv = .ref c ∧ H c = some (LamX.CodeO c q) ∧ c ∉ ρ
theorem TabN.imp {P : Addr} {q : Str} (t : TabN ρ H P q) (hP : H' P = H P) (k : ∀ c o, H c = some o → NT o → c ∉ ρ → H' c = some o ∧ c ∉ ρ') : TabN ρ' H' P q := by
  obtain ⟨ps, h1, h2, h3⟩ := t
  refine ⟨ps, hP.trans h1, h2, fun pos cv e => ?_⟩
  obtain ⟨c, e1, e2, e3⟩ := h3 pos cv e
  obtain ⟨k1, k2⟩ := k c _ e2 nt_code e3
  exact ⟨c, e1, k1, k2⟩
/-- what a cell says of the thing at a -/
def CR (K : PySem.W.Frag) (ρ : Pl) (H : Hp) (a : Addr) : C → Prop
  | .lst ds => ∃ xs, H a = some (.lst xs) ∧ VRs K ρ H xs ds
  | .dK false kvs => ∃ ws, H a = some (.dK ws) ∧ KR (VR K ρ H) ws kvs
  | .dK true kvs => ∃ o ws, H a = some (.frz o (.dK ws)) ∧ KR (VR K ρ H) ws kvs
  | .dT false kvs => ∃ ws, H a = some (.dT ws) ∧ KR (VR K ρ H) ws kvs
  | .dT true kvs => ∃ o ws, H a = some (.frz o (.dT ws)) ∧ KR (VR K ρ H) ws kvs
  | .ins c fs => ∃ C dx ws, clsAt K c = .ref C ∧ H a = some (.ins C dx ws) ∧ KR (VR K ρ H) ws fs
  | .tab P q => a = P ∧ TabN ρ H P q
structure SR (K : PySem.W.Frag) (ρ : Pl) (S : Sto) (H : Hp) : Prop where
  len : ρ.loc.length = S.length
  nd : ρ.loc.Nodup
  hd : ∀ a ∈ ρ.hid, a ∉ ρ.loc ∧ ∃ o, H a = some o ∧ NH o
  cell : ∀ (l : Nat) c, S[l]? = some c → ∃ a, ρ.loc[l]? = some a ∧ CR K ρ H a c
def ER (K : PySem.W.Frag) (ρ : Pl) (H : Hp) (τ : Tau) (σ : St) : Prop := τ.length = σ.length ∧ ∀ (i : Nat) d, τ[i]? = some (some d) → ∃ v, σ[i]? = some (some v) ∧ VR K ρ H v d

theorem CR.isSome {a : Addr} {c : C} (h : CR K ρ H a c) : ∃ o, H a = some o := by
  cases c with
  | lst ds => obtain ⟨xs, h, _⟩ := h; exact ⟨_, h⟩
  | dK lk kvs =>
    cases lk
    · obtain ⟨ws, h, _⟩ := h; exact ⟨_, h⟩
    · obtain ⟨o, ws, h, _⟩ := h; exact ⟨_, h⟩
  | dT lk kvs =>
    cases lk
    · obtain ⟨ws, h, _⟩ := h; exact ⟨_, h⟩
    · obtain ⟨o, ws, h, _⟩ := h; exact ⟨_, h⟩
  | ins cc fs => obtain ⟨C, dx, ws, _, h, _⟩ := h; exact ⟨_, h⟩
  | tab P q => obtain ⟨rfl, ps, h, _⟩ := h; exact ⟨_, h⟩
theorem CR.mono (e : Ext ρ H ρ' H') {a : Addr} {c : C} (h : CR K ρ H a c) (ha : H' a = H a) : CR K ρ' H' a c := by
  have e0 := e
  have m : ∀ v d, VR K ρ H v d → VR K ρ' H' v d := fun _ _ => VR.mono e
  cases c with
  | lst ds => obtain ⟨xs, h, g⟩ := h; exact ⟨xs, ha.trans h, VRs.mono e g⟩
  | dK lk kvs =>
    cases lk
    · obtain ⟨ws, h, g⟩ := h; exact ⟨ws, ha.trans h, g.mono m⟩
    · obtain ⟨o, ws, h, g⟩ := h; exact ⟨o, ws, ha.trans h, g.mono m⟩
  | dT lk kvs =>
    cases lk
    · obtain ⟨ws, h, g⟩ := h; exact ⟨ws, ha.trans h, g.mono m⟩
    · obtain ⟨o, ws, h, g⟩ := h; exact ⟨o, ws, ha.trans h, g.mono m⟩
  | ins cc fs => obtain ⟨C, dx, ws, hc, h, g⟩ := h; exact ⟨C, dx, ws, hc, ha.trans h, g.mono m⟩
  | tab P q => obtain ⟨rfl, h⟩ := h; exact ⟨rfl, h.imp ha fun c o e n z => ⟨e0.kp e z n, e0.out e z n⟩⟩
theorem SR.memL (r : SR K ρ S H) {a : Addr} (h : a ∈ ρ.loc) : ∃ o, H a = some o := by
  obtain ⟨l, hl, e⟩ := List.getElem_of_mem h
  have hl' : l < S.length := by rw [← r.len]; exact hl
  obtain ⟨b, h1, h2⟩ := r.cell l S[l] (by simp [hl'])
  have : b = a := by
    rw [List.getElem?_eq_getElem hl, e] at h1; exact (Option.some.inj h1).symm
  subst this
  exact h2.isSome
theorem SR.mem (r : SR K ρ S H) {a : Addr} (h : a ∈ ρ) : ∃ o, H a = some o := by
  rcases h with h | h
  · exact r.memL h
  · obtain ⟨_, o, e, _⟩ := r.hd a h; exact ⟨o, e⟩
theorem SR.fresh (r : SR K ρ S H) {p : Addr} (h : H p = none) : p ∉ ρ := fun q => by
  obtain ⟨o, e⟩ := r.mem q
  rw [h] at e; cases e
theorem SR.at (r : SR K ρ S H) {l : Nat} {a : Addr} {c : C} (h : ρ.loc[l]? = some a) (hc : S[l]? = some c) : CR K ρ H a c := by
  obtain ⟨b, h1, h2⟩ := r.cell l c hc
  rw [h] at h1; cases h1; exact h2
theorem ER.mono (e : Ext ρ H ρ' H') (r : ER K ρ H τ σ) : ER K ρ' H' τ σ := ⟨r.1, fun i d h => let ⟨v, h1, h2⟩ := r.2 i d h; ⟨v, h1, h2.mono e⟩⟩
/-- a new thing laid that is none of the store's -/
theorem upd_live {p : Addr} {o : HO} (n : NT o) : ∀ b, FrT (upd H p o) b → FrT H b := fun b h => by
  by_cases z : b = p
  · subst z; exact (h.no upd_same n).elim
  · intro u e; exact h u (by rw [upd_ne z]; exact e)
theorem upd_live0 {p : Addr} {o : HO} (n : H p = none) : ∀ b, FrT (upd H p o) b → FrT H b := fun b h => by
  by_cases z : b = p
  · subst z; exact .none n
  · intro u e; exact h u (by rw [upd_ne z]; exact e)
theorem Ext.fresh {p : Addr} {o : HO} (h : H p = none) : Ext ρ H ρ (upd H p o) := ⟨⟨[], by simp⟩, fun _ h => h, fun _ q => .inl q, fun _ q => .inl q, fun b u e _ _ => by rw [upd_ne (ne_of_none e h)]; exact e, upd_live0 h, fun b o u e => by rw [upd_ne (ne_of_none e h)]; exact e⟩
theorem SR.laid (r : SR K ρ S H) {p : Addr} {o : HO} (h : H p = none) : SR K ρ S (upd H p o) := ⟨r.len, r.nd, fun a ha => ⟨(r.hd a ha).1, let ⟨u, hu, n⟩ := (r.hd a ha).2; ⟨u, by rw [upd_ne (ne_of_none hu h)]; exact hu, n⟩⟩, fun l c e => by
  obtain ⟨a, h1, h2⟩ := r.cell l c e
  obtain ⟨u, hu⟩ := h2.isSome
  exact ⟨a, h1, h2.mono (Ext.fresh h) (upd_ne (ne_of_none hu h))⟩⟩
/-- a new place -/
theorem Ext.push {p : Addr} {o : HO} (h : H p = none) : Ext ρ H (ρ.push p) (upd H p o) := ⟨⟨[p], rfl⟩, fun _ h => h, fun b q => by
  rcases List.mem_append.mp q with z | z
  · exact .inl z
  · have : b = p := by simpa using z
    subst this; exact .inr (.none h), fun _ q => .inl q, fun b u e _ _ => by rw [upd_ne (ne_of_none e h)]; exact e, upd_live0 h, fun b o u e => by rw [upd_ne (ne_of_none e h)]; exact e⟩
theorem SR.push (r : SR K ρ S H) {p : Addr} {o : HO} {c : C} (h : H p = none) (hc : CR K (ρ.push p) (upd H p o) p c) : SR K (ρ.push p) (S ++ [c]) (upd H p o) := by
  refine ⟨by simp [Pl.push, r.len], ?_, fun a ha => ?_, fun l d e => ?_⟩
  · show (ρ.loc ++ [p]).Nodup
    rw [List.nodup_append]
    refine ⟨r.nd, by simp, fun a ha b hb => ?_⟩
    have : b = p := by simpa using hb
    subst this
    rintro rfl
    exact r.fresh h (.inl ha)
  · obtain ⟨h1, u, hu, n'⟩ := r.hd a ha
    have hne : a ≠ p := ne_of_none hu h
    refine ⟨fun q => ?_, u, by rw [upd_ne hne]; exact hu, n'⟩
    rcases List.mem_append.mp (show a ∈ ρ.loc ++ [p] from q) with z | z
    · exact h1 z
    · exact hne (by simpa using z)
  · by_cases hl : l < S.length
    · rw [List.getElem?_append_left hl] at e
      obtain ⟨a, h1, h2⟩ := r.cell l d e
      obtain ⟨u, hu⟩ := h2.isSome
      exact ⟨a, (Ext.push (o := o) h).get h1, h2.mono (Ext.push h) (upd_ne (ne_of_none hu h))⟩
    · have e2 : l = S.length := by
        have := (List.getElem?_eq_some_iff.mp e).1
        simp at this; omega
      subst e2
      rw [List.getElem?_append_right (Nat.le_refl _)] at e
      simp at e
      subst e
      refine ⟨p, ?_, hc⟩
      show (ρ.loc ++ [p])[S.length]? = some p
      rw [← r.len, List.getElem?_append_right (Nat.le_refl _)]; simp
theorem Pl.push_get {p : Addr} (r : SR K ρ S H) : (ρ.push p).loc[S.length]? = some p := by
  show (ρ.loc ++ [p])[S.length]? = some p
  rw [← r.len, List.getElem?_append_right (Nat.le_refl _)]; simp
/-- a thing of the store changed -/
theorem Ext.set {l : Nat} {p : Addr} {o : HO} (h : ρ.loc[l]? = some p) (nf : NF H p) (n : NT o := by (intro ps z; cases z)) : Ext ρ H ρ (upd H p o) := ⟨⟨[], by simp⟩, fun _ h => h, fun _ q => .inl q, fun _ q => .inl q, fun b u e _ hb => by
  have : b ≠ p := by rintro rfl; exact hb (List.mem_of_getElem? h)
  rw [upd_ne this]; exact e, upd_live n, fun b q u e => by
  have : b ≠ p := by rintro rfl; exact nf _ _ e
  rw [upd_ne this]; exact e⟩
mutual
theorem VR.unhide {p : Addr} : ∀ {v : V} {d : D}, VR K ρ H v d → VR K (ρ.bare p) H v d
  | _, _, .non => .non
  | _, _, .bl b => .bl b
  | _, _, .int i => .int i
  | _, _, .str x => .str x
  | _, _, .tup h h2 hs => .tup h (fun z => h2 (Pl.bare_sub z)) (VRs.unhide hs)
  | _, _, .ktup h hs => .ktup h (VRs.unhide hs)
  | _, _, .lst h h2 hs => .lst h (fun z => h2 (Pl.bare_sub z)) (VRs.unhide hs)
  | _, _, .dct h h2 hk hs => .dct h (fun z => h2 (Pl.bare_sub z)) hk (VRs.unhide hs)
  | _, _, .scr h hs => .scr (h.imp (fun ⟨o, h1, h2⟩ => ⟨o, h1, fun z => h2 (Pl.bare_sub z)⟩) id) (VRs.unhide hs)
  | _, _, .loc h => .loc h
  | _, _, .ob v => .ob v
  | _, _, .fn h => .fn h
theorem VRs.unhide {p : Addr} : ∀ {vs : List V} {ds : List D}, VRs K ρ H vs ds → VRs K (ρ.bare p) H vs ds
  | _, _, .nil => .nil
  | _, _, .cons h hs => .cons (VR.unhide h) (VRs.unhide hs)
end
mutual
/-- a new hidden thing: what was there stands -/
theorem VR.hide {p : Addr} {o : HO} (hp : H p = none) : ∀ {v : V} {d : D}, VR K ρ H v d → VR K (ρ.hide p) (upd H p o) v d
  | _, _, .non => .non
  | _, _, .bl b => .bl b
  | _, _, .int i => .int i
  | _, _, .str x => .str x
  | _, _, .tup h h2 hs => .tup (by rw [upd_ne (ne_of_none h hp)]; exact h) (fun z => by
      rcases z with z | z
      · exact h2 (.inl z)
      · rcases List.mem_cons.mp z with z | z
        · exact ne_of_none h hp z
        · exact h2 (.inr z)) (VRs.hide hp hs)
  | _, _, .ktup h hs => .ktup h (VRs.hide hp hs)
  | _, _, .lst h h2 hs => .lst (by rw [upd_ne (ne_of_none h hp)]; exact h) (fun z => by
      rcases z with z | z
      · exact h2 (.inl z)
      · rcases List.mem_cons.mp z with z | z
        · exact ne_of_none h hp z
        · exact h2 (.inr z)) (VRs.hide hp hs)
  | _, _, .dct h h2 hk hs => .dct (by rw [upd_ne (ne_of_none h hp)]; exact h) (fun z => by
      rcases z with z | z
      · exact h2 (.inl z)
      · rcases List.mem_cons.mp z with z | z
        · exact ne_of_none h hp z
        · exact h2 (.inr z)) hk (VRs.hide hp hs)
  | _, _, .scr h hs => .scr (h.imp (fun ⟨u, h1, h2⟩ => ⟨u, by rw [upd_ne (ne_of_none h1 hp)]; exact h1, fun z => by
      rcases z with z | z
      · exact h2 (.inl z)
      · rcases List.mem_cons.mp z with z | z
        · exact ne_of_none h1 hp z
        · exact h2 (.inr z)⟩) id) (VRs.hide hp hs)
  | _, _, .loc h => .loc h
  | _, _, .ob v => .ob v
  | _, _, .fn h => .fn h
theorem VRs.hide {p : Addr} {o : HO} (hp : H p = none) : ∀ {vs : List V} {ds : List D}, VRs K ρ H vs ds → VRs K (ρ.hide p) (upd H p o) vs ds
  | _, _, .nil => .nil
  | _, _, .cons h hs => .cons (VR.hide hp h) (VRs.hide hp hs)
end
theorem ne_hid {p a : Addr} (hp : p ∈ ρ) (h : a ∉ ρ) : a ≠ p := by rintro rfl; exact h hp
mutual
/-- the hidden thing changes -/
theorem VR.rehide {p : Addr} {o : HO} (hp : p ∈ ρ) : ∀ {v : V} {d : D}, VR K ρ H v d → VR K ρ (upd H p o) v d
  | _, _, .non => .non
  | _, _, .bl b => .bl b
  | _, _, .int i => .int i
  | _, _, .str x => .str x
  | _, _, .tup h h2 hs => .tup (by rw [upd_ne (ne_hid hp h2)]; exact h) h2 (VRs.rehide hp hs)
  | _, _, .ktup h hs => .ktup h (VRs.rehide hp hs)
  | _, _, .lst h h2 hs => .lst (by rw [upd_ne (ne_hid hp h2)]; exact h) h2 (VRs.rehide hp hs)
  | _, _, .dct h h2 hk hs => .dct (by rw [upd_ne (ne_hid hp h2)]; exact h) h2 hk (VRs.rehide hp hs)
  | _, _, .scr h hs => .scr (h.imp (fun ⟨u, h1, h2⟩ => ⟨u, by rw [upd_ne (ne_hid hp h2)]; exact h1, h2⟩) id) (VRs.rehide hp hs)
  | _, _, .loc h => .loc h
  | _, _, .ob v => .ob v
  | _, _, .fn h => .fn h
theorem VRs.rehide {p : Addr} {o : HO} (hp : p ∈ ρ) : ∀ {vs : List V} {ds : List D}, VRs K ρ H vs ds → VRs K ρ (upd H p o) vs ds
  | _, _, .nil => .nil
  | _, _, .cons h hs => .cons (VR.rehide hp h) (VRs.rehide hp hs)
end
theorem CR.map {a : Addr} {c : C} (h : CR K ρ H a c) (m : ∀ v d, VR K ρ H v d → VR K ρ' H' v d) (ms : ∀ v d, VRs K ρ H v d → VRs K ρ' H' v d) (mt : ∀ c o, H c = some o → NT o → c ∉ ρ → H' c = some o ∧ c ∉ ρ') (ha : H' a = H a) : CR K ρ' H' a c := by
  cases c with
  | lst ds => obtain ⟨xs, h, g⟩ := h; exact ⟨xs, ha.trans h, ms _ _ g⟩
  | dK lk kvs =>
    cases lk
    · obtain ⟨ws, h, g⟩ := h; exact ⟨ws, ha.trans h, g.mono m⟩
    · obtain ⟨o, ws, h, g⟩ := h; exact ⟨o, ws, ha.trans h, g.mono m⟩
  | dT lk kvs =>
    cases lk
    · obtain ⟨ws, h, g⟩ := h; exact ⟨ws, ha.trans h, g.mono m⟩
    · obtain ⟨o, ws, h, g⟩ := h; exact ⟨o, ws, ha.trans h, g.mono m⟩
  | ins cc fs => obtain ⟨C, dx, ws, hc, h, g⟩ := h; exact ⟨C, dx, ws, hc, ha.trans h, g.mono m⟩
  | tab P q => obtain ⟨rfl, h⟩ := h; exact ⟨rfl, h.imp ha mt⟩
theorem SR.set (r : SR K ρ S H) {l : Nat} {p : Addr} {o : HO} {c : C} (h : ρ.loc[l]? = some p) (hc : CR K ρ (upd H p o) p c) (n : NT o := by (intro ps z; cases z)) : SR K ρ (S.set l c) (upd H p o) := by
  refine ⟨by simp [r.len], r.nd, fun a ha => ?_, fun i d e => ?_⟩
  · obtain ⟨h1, u, hu, n'⟩ := r.hd a ha
    have hne : a ≠ p := by rintro rfl; exact h1 (List.mem_of_getElem? h)
    exact ⟨h1, u, by rw [upd_ne hne]; exact hu, n'⟩
  · by_cases hi : i = l
    · subst hi
      have hl : i < S.length := by
        have := (List.getElem?_eq_some_iff.mp e).1
        simpa using this
      rw [List.getElem?_set_self hl] at e
      cases e
      exact ⟨p, h, hc⟩
    · rw [List.getElem?_set_ne (Ne.symm hi)] at e
      obtain ⟨a, h1, h2⟩ := r.cell i d e
      have : a ≠ p := by
        rintro rfl
        obtain ⟨x1, y1⟩ := List.getElem?_eq_some_iff.mp h1
        obtain ⟨x2, y2⟩ := List.getElem?_eq_some_iff.mp h
        exact hi ((List.getElem_inj r.nd).mp (y1.trans y2.symm))
      have hp : p ∈ ρ := .inl (List.mem_of_getElem? h)
      exact ⟨a, h1, h2.map (fun _ _ => VR.rehide hp) (fun _ _ => VRs.rehide hp) (fun c o e _ z => ⟨by rw [upd_ne (ne_hid hp z)]; exact e, z⟩) (upd_ne this)⟩
theorem SR.hide (r : SR K ρ S H) {p : Addr} {o : HO} (hp : H p = none) (n : NH o := by exact ⟨(by intro ps z; cases z), (by intro c q z; unfold LamX.CodeO at z; cases z)⟩) : SR K (ρ.hide p) S (upd H p o) := by
  refine ⟨r.len, r.nd, fun a ha => ?_, fun l c e => ?_⟩
  · rcases List.mem_cons.mp (show a ∈ p :: ρ.hid from ha) with z | z
    · subst z; exact ⟨fun q => r.fresh hp (.inl q), o, upd_same, n⟩
    · obtain ⟨h1, u, hu, n'⟩ := r.hd a z
      exact ⟨h1, u, by rw [upd_ne (ne_of_none hu hp)]; exact hu, n'⟩
  · obtain ⟨a, h1, h2⟩ := r.cell l c e
    obtain ⟨u, hu⟩ := h2.isSome
    refine ⟨a, h1, h2.map (fun _ _ => VR.hide hp) (fun _ _ => VRs.hide hp) (fun c o e _ z => ⟨by rw [upd_ne (ne_of_none e hp)]; exact e, fun y => ?_⟩) (upd_ne (ne_of_none hu hp))⟩
    rcases y with y | y
    · exact z (.inl y)
    · rcases List.mem_cons.mp y with y | y
      · exact ne_of_none e hp y
      · exact z (.inr y)
theorem SR.rehide (r : SR K ρ S H) {p : Addr} {o : HO} (hp : p ∈ ρ.hid) (n : NH o := by exact ⟨(by intro ps z; cases z), (by intro c q z; unfold LamX.CodeO at z; cases z)⟩) : SR K ρ S (upd H p o) := by
  refine ⟨r.len, r.nd, fun a ha => ?_, fun l c e => ?_⟩
  · obtain ⟨h1, u, hu, n'⟩ := r.hd a ha
    by_cases z : a = p
    · subst z; exact ⟨h1, o, upd_same, n⟩
    · exact ⟨h1, u, by rw [upd_ne z]; exact hu, n'⟩
  · obtain ⟨a, h1, h2⟩ := r.cell l c e
    have : a ≠ p := by rintro rfl; exact (r.hd _ hp).1 (List.mem_of_getElem? h1)
    exact ⟨a, h1, h2.map (fun _ _ => VR.rehide (.inr hp)) (fun _ _ => VRs.rehide (.inr hp)) (fun c o e _ z => ⟨by rw [upd_ne (ne_hid (.inr hp) z)]; exact e, z⟩) (upd_ne this)⟩
theorem SR.unhide {p : Addr} (r : SR K ρ S H) : SR K (ρ.bare p) S H := by
  refine ⟨r.len, r.nd, fun a ha => r.hd a (List.mem_filter.mp ha).1, fun l c e => ?_⟩
  obtain ⟨a, h1, h2⟩ := r.cell l c e
  exact ⟨a, h1, h2.map (fun _ _ => VR.unhide) (fun _ _ => VRs.unhide) (fun c o e _ z => ⟨e, fun y => z (Pl.bare_sub y)⟩) rfl⟩

theorem Ext.hide {p : Addr} {o : HO} (h : H p = none) : Ext ρ H (ρ.hide p) (upd H p o) := ⟨⟨[], by simp [Pl.hide]⟩, fun _ q => List.mem_cons_of_mem _ q, fun _ q => .inl q, fun a q => by
  rcases List.mem_cons.mp (show a ∈ p :: ρ.hid from q) with z | z
  · subst z; exact .inr (.none h)
  · exact .inl z, fun b u e _ _ => by rw [upd_ne (ne_of_none e h)]; exact e, upd_live0 h, fun b o u e => by rw [upd_ne (ne_of_none e h)]; exact e⟩
/-- what began without p goes on without it -/
theorem Ext.bare {p : Addr} (e : Ext ρ H ρ' H') (h : p ∉ ρ.hid) : Ext ρ H (ρ'.bare p) H' := ⟨e.pre, fun a q => List.mem_filter.mpr ⟨e.hid a q, decide_eq_true (by rintro rfl; exact h q)⟩, e.newL, fun a q => e.newH a (List.mem_filter.mp q).1, e.keep, e.live, e.frz⟩
/-- the hidden thing changes: a step of what began when it was not there -/
theorem Ext.rehide {p : Addr} {o : HO} (e : Ext ρ H ρ' H') (h : H p = none) : Ext ρ H ρ' (upd H' p o) := ⟨e.pre, e.hid, e.newL, e.newH, fun b u q n hb => by rw [upd_ne (ne_of_none q h)]; exact e.keep b u q n hb, fun b q u z => by
  have hb : b ≠ p := ne_of_none z h
  exact e.live b (fun u2 z2 => q u2 (by rw [upd_ne hb]; exact z2)) u z, fun b q u z => by rw [upd_ne (ne_of_none z h)]; exact e.frz b q u z⟩

/-! ### what an answer asks -/
/-- an exception's own dict -/
def XD (K : PySem.W.Frag) (ρ : Pl) (H : Hp) (dd : Option Addr) (fs : List (Str × D)) : Prop :=
  (fs = [] ∧ dd = none) ∨ (fs ≠ [] ∧ ∃ da ws, dd = some da ∧ H da = some (.xd ws) ∧ da ∉ ρ ∧ KR (VR K ρ H) ws fs)
def Post (K : PySem.W.Frag) (W : XK) (ρ : Pl) (H : Hp) {A B : Type} (o : R A) (rel : Pl → Hp → B → A → Prop) (Q : B → Hp → Prop) : Prop := match o with
  | .ok d S' => ∀ ρ' H' v, Ext ρ H ρ' H' → SR K ρ' S' H' → rel ρ' H' v d → Q v H'
  | .ex c fs S' => ∀ ρ' H' dd, Ext ρ H ρ' H' → SR K ρ' S' H' → XD K ρ' H' dd fs → W (clsAt K c) dd H'
  | .bad => False
theorem Post.ext {W : XK} {A B : Type} {o : R A} {rel : Pl → Hp → B → A → Prop} {Q : B → Hp → Prop} (e : Ext ρ H ρ' H') (h : Post K W ρ H o rel Q) : Post K W ρ' H' o rel Q := by
  cases o with
  | ok d S' => exact fun r2 H2 v e2 s2 v2 => h r2 H2 v (e.trans e2) s2 v2
  | ex c fs S' => exact fun r2 H2 v e2 s2 v2 => h r2 H2 v (e.trans e2) s2 v2
  | bad => exact h
theorem Post.bind {W : XK} {A B A' B' : Type} {o : R A} {f : A → Sto → R A'} {rel : Pl → Hp → B → A → Prop} {rel' : Pl → Hp → B' → A' → Prop} {Q : B' → Hp → Prop} {Q1 : B → Hp → Prop}
    (h : Post K W ρ H (o.bind f) rel' Q) (k : ∀ ρ1 H1 S1 v d, Ext ρ H ρ1 H1 → SR K ρ1 S1 H1 → rel ρ1 H1 v d → Post K W ρ1 H1 (f d S1) rel' Q → Q1 v H1) : Post K W ρ H o rel Q1 := by
  cases o with
  | ok d S' => exact fun r2 H2 v e2 s2 v2 => k r2 H2 S' v d e2 s2 v2 (Post.ext e2 h)
  | ex c fs S' => exact h
  | bad => exact h
/-- an answer in hand: the heap as it stands -/
theorem Post.here {W : XK} {A B : Type} {d : A} {rel : Pl → Hp → B → A → Prop} {Q : B → Hp → Prop} {v : B} (h : Post K W ρ H (.ok d S) rel Q) (s : SR K ρ S H) (r : rel ρ H v d) : Q v H := h ρ H v Ext.refl s r
end

/-! ### readings -/
abbrev ME := Tau → Sto → R D
abbrev MT := Tau → Sto → R Bool
abbrev MA := Tau → Sto → R (List D)
abbrev relB : Pl → Hp → Bool → Bool → Prop := fun _ _ b b' => b = b'
def Em (K : PySem.W.Frag) (W : WX) (m : ME) : TE := fun σ H Q => ∃ ρ τ S, SR K ρ S H ∧ ER K ρ H τ σ ∧ Post K (fun c d H' => W c d σ H') ρ H (m τ S) (VR K) Q
def Tm (K : PySem.W.Frag) (W : WX) (m : MT) : TT := fun σ H Q => ∃ ρ τ S, SR K ρ S H ∧ ER K ρ H τ σ ∧ Post K (fun c d H' => W c d σ H') ρ H (m τ S) relB Q
def Am (K : PySem.W.Frag) (W : WX) (m : MA) : TA := fun σ H Q => ∃ ρ τ S, SR K ρ S H ∧ ER K ρ H τ σ ∧ Post K (fun c d H' => W c d σ H') ρ H (m τ S) (VRs K) Q
theorem PE_imp {X : Cx} {e : Expr} {t t' : TE} (h : PE X e t) (k : ∀ σ H Q, t' σ H Q → t σ H Q) : PE X e t' := ⟨fun pins s σ H Q I w => h.run pins s σ H Q I (k σ H Q w)⟩
theorem PT_imp {X : Cx} {e : Expr} {t t' : TT} (h : PT X e t) (k : ∀ σ H Q, t' σ H Q → t σ H Q) : PT X e t' := ⟨fun pins s σ H Q I w => h.run pins s σ H Q I (k σ H Q w)⟩
theorem PW_imp {X : Cx} {e : Expr} {t t' : TT} (h : PW X e t) (k : ∀ σ H Q, t' σ H Q → t σ H Q) : PW X e t' := ⟨fun wh pins s σ H Q I w => h.run wh pins s σ H Q I (k σ H Q w)⟩
theorem PA_imp {X : Cx} {es : List Expr} {t t' : TA} (h : PA X es t) (k : ∀ σ H Q, t' σ H Q → t σ H Q) : PA X es t' := ⟨fun p pins s σ H Q I w => h.run p pins s σ H Q I (k σ H Q w)⟩
theorem PS_imp {X : Cx} {e : Stmt} {t t' : TS} (h : PS X e t) (k : ∀ D σ H, t' D σ H → t D σ H) : PS X e t' := ⟨fun pins s σ H D I w => h.run pins s σ H D I (k D σ H w)⟩
theorem PSs_imp {X : Cx} {e : List Stmt} {t t' : TS} (h : PSs X e t) (k : ∀ D σ H, t' D σ H → t D σ H) : PSs X e t' := ⟨fun pins s σ H D I w => h.run pins s σ H D I (k D σ H w)⟩

section
variable {X : Cx} {W : WX} {σ : St} {H : Hp}
/-- the workhorse: a part is read, then the rest -/
theorem Em_bind {K : PySem.W.Frag} {A' B' : Type} {m : ME} {f : D → Sto → R A'} {rel' : Pl → Hp → B' → A' → Prop} {Q : B' → Hp → Prop} {Q1 : VK} {ρ : Pl} {τ : Tau} {S : Sto} (s : SR K ρ S H) (r : ER K ρ H τ σ)
    (h : Post K (fun c d H' => W c d σ H') ρ H ((m τ S).bind f) rel' Q)
    (k : ∀ ρ1 H1 S1 v d, SR K ρ1 S1 H1 → ER K ρ1 H1 τ σ → Ext ρ H ρ1 H1 → VR K ρ1 H1 v d → Post K (fun c d H' => W c d σ H') ρ1 H1 (f d S1) rel' Q → Q1 v H1) : Em K W m σ H Q1 :=
  ⟨ρ, τ, S, s, r, Post.bind h fun ρ1 H1 S1 v d e s1 v1 p => k ρ1 H1 S1 v d s1 (r.mono e) e v1 p⟩
theorem Tm_bind {K : PySem.W.Frag} {A' B' : Type} {m : MT} {f : Bool → Sto → R A'} {rel' : Pl → Hp → B' → A' → Prop} {Q : B' → Hp → Prop} {Q1 : Bool → Hp → Prop} {ρ : Pl} {τ : Tau} {S : Sto} (s : SR K ρ S H) (r : ER K ρ H τ σ)
    (h : Post K (fun c d H' => W c d σ H') ρ H ((m τ S).bind f) rel' Q)
    (k : ∀ ρ1 H1 S1 b, SR K ρ1 S1 H1 → ER K ρ1 H1 τ σ → Ext ρ H ρ1 H1 → Post K (fun c d H' => W c d σ H') ρ1 H1 (f b S1) rel' Q → Q1 b H1) : Tm K W m σ H Q1 :=
  ⟨ρ, τ, S, s, r, Post.bind h fun ρ1 H1 S1 v d e s1 v1 p => by
    have v1' : v = d := v1
    subst v1'; exact k ρ1 H1 S1 v s1 (r.mono e) e p⟩
theorem Am_bind {K : PySem.W.Frag} {A' B' : Type} {m : MA} {f : List D → Sto → R A'} {rel' : Pl → Hp → B' → A' → Prop} {Q : B' → Hp → Prop} {Q1 : List V → Hp → Prop} {ρ : Pl} {τ : Tau} {S : Sto} (s : SR K ρ S H) (r : ER K ρ H τ σ)
    (h : Post K (fun c d H' => W c d σ H') ρ H ((m τ S).bind f) rel' Q)
    (k : ∀ ρ1 H1 S1 v d, SR K ρ1 S1 H1 → ER K ρ1 H1 τ σ → Ext ρ H ρ1 H1 → VRs K ρ1 H1 v d → Post K (fun c d H' => W c d σ H') ρ1 H1 (f d S1) rel' Q → Q1 v H1) : Am K W m σ H Q1 :=
  ⟨ρ, τ, S, s, r, Post.bind h fun ρ1 H1 S1 v d e s1 v1 p => k ρ1 H1 S1 v d s1 (r.mono e) e v1 p⟩
end
end Z

/-! Z2: rules of expressions: names, constants, operators, tests, displays, calls. -/
namespace Z
open PySem L2

/-! ### what a thing is to be read as -/
/-- the items of a list that is tracked as it stands (to be concatenated) -/
def listD : D → Sto → Option (List D)
  | .lst ds, _ => some ds
  | .loc l, S => match S[l]? with | some (.lst ds) => some ds | _ => none
  | _, _ => none
/-- of a list that is read -/
def listR : D → Sto → Option (List D)
  | .scr ds, _ => some ds
  | .lst ds, _ => some ds
  | .loc l, S => match S[l]? with | some (.lst ds) => some ds | _ => none
  | _, _ => none
section
variable {K : PySem.W.Frag} {ρ : Pl} {H : Hp} {S : Sto} {v : V} {d : D} {ds : List D}
theorem listD_of (s : SR K ρ S H) (r : VR K ρ H v d) (h : listD d S = some ds) : ∃ a xs, v = .ref a ∧ H a = some (.lst xs) ∧ VRs K ρ H xs ds := by
  cases r with
  | lst h1 h2 hs => simp only [listD, Option.some.injEq] at h; subst h; exact ⟨_, _, rfl, h1, hs⟩
  | @loc a l hl =>
    simp only [listD] at h
    split at h
    · rename_i es e
      simp only [Option.some.injEq] at h
      subst h
      obtain ⟨xs, h1, h2⟩ := s.at hl e
      exact ⟨_, _, rfl, h1, h2⟩
    · cases h
  | _ => simp [listD] at h
theorem listR_of (s : SR K ρ S H) (r : VR K ρ H v d) (h : listR d S = some ds) : ∃ a xs, v = .ref a ∧ SqL K H a xs ∧ VRs K ρ H xs ds := by
  cases r with
  | lst h1 h2 hs => simp only [listR, Option.some.injEq] at h; subst h; exact ⟨_, _, rfl, SqL.of h1, hs⟩
  | scr h1 hs =>
    simp only [listR, Option.some.injEq] at h; subst h
    refine ⟨_, _, rfl, ?_, hs⟩
    rcases h1 with ⟨o, h1, _⟩ | h1
    · exact .inl (.inr ⟨o, h1⟩)
    · exact h1 H
  | @loc a l hl =>
    simp only [listR] at h
    split at h
    · rename_i es e
      simp only [Option.some.injEq] at h
      subst h
      obtain ⟨xs, h1, h2⟩ := s.at hl e
      exact ⟨_, _, rfl, SqL.of h1, h2⟩
    · cases h
  | _ => simp [listR] at h
theorem tup_of (r : VR K ρ H v (.tup ds)) : ∃ a xs, v = .ref a ∧ SqT K H a xs ∧ VRs K ρ H xs ds := by
  cases r with
  | tup h _ hs => exact ⟨_, _, rfl, SqT.of h, hs⟩
theorem ktup_of (r : VR K ρ H v (.ktup ds)) : ∃ a xs, v = .ref a ∧ SqT K H a xs ∧ VRs K ρ H xs ds := by
  cases r with
  | ktup h hs => exact ⟨_, _, rfl, h H, hs⟩
/-- a tuple that was made while the program ran -/
theorem tup_at (r : VR K ρ H v (.tup ds)) : ∃ a xs, v = .ref a ∧ H a = some (.tup xs) ∧ VRs K ρ H xs ds := by
  cases r with
  | tup h _ hs => exact ⟨_, _, rfl, h, hs⟩
theorem VR.newTup (s : SR K ρ S H) {p : Addr} {xs : List V} (hp : H p = none) (h : VRs K ρ H xs ds) : VR K ρ (upd H p (.tup xs)) (.ref p) (.tup ds) :=
  .tup upd_same (s.fresh hp) (h.mono (Ext.fresh hp))
theorem VR.newLst (s : SR K ρ S H) {p : Addr} {xs : List V} (hp : H p = none) (h : VRs K ρ H xs ds) : VR K ρ (upd H p (.lst xs)) (.ref p) (.lst ds) :=
  .lst upd_same (s.fresh hp) (h.mono (Ext.fresh hp))
/-- a new tuple, a new list as answers -/
theorem Post.newTup {W : XK} {Q : VK} (h : Post K W ρ H (.ok (.tup ds) S) (VR K) Q) (s : SR K ρ S H) {xs : List V} (r : VRs K ρ H xs ds) : ∀ p, H p = none → Q (.ref p) (upd H p (.tup xs)) := fun p hp =>
  h ρ _ _ (Ext.fresh hp) (s.laid hp) (VR.newTup s hp r)
theorem Post.newLst {W : XK} {Q : VK} (h : Post K W ρ H (.ok (.lst ds) S) (VR K) Q) (s : SR K ρ S H) {xs : List V} (r : VRs K ρ H xs ds) : ∀ p, H p = none → Q (.ref p) (upd H p (.lst xs)) := fun p hp =>
  h ρ _ _ (Ext.fresh hp) (s.laid hp) (VR.newLst s hp r)
end

def guardR {A : Type} (c : Prop) [Decidable c] (o : R A) : R A := if c then o else .bad
theorem guardR_post {K W ρ H} {A B : Type} {c : Prop} [Decidable c] {o : R A} {rel : Pl → Hp → B → A → Prop} {Q} (h : Post K W ρ H (guardR c o) rel Q) : c ∧ Post K W ρ H o rel Q := by
  unfold guardR at h
  split at h
  · exact ⟨by assumption, h⟩
  · exact h.elim
@[simp] theorem guardR_pos {A : Type} {c : Prop} [Decidable c] {o : R A} (h : c) : guardR c o = o := if_pos h

/-! ### names and constants -/
def mVar (i : Nat) : ME := fun τ S => match τ[i]? with | some (some d) => .ok d S | _ => .bad
def mC (d : D) : ME := fun _ S => .ok d S
section
variable {X : Cx} {W : WX} {e a b c : Expr} {ma mb mc : ME} {pos : Pos}
theorem z_var (i : Nat) {x : Str} (h : PE X (.Name x pos) (tVar i)) : PE X (.Name x pos) (Em X.K W (mVar i)) := PE_imp h fun σ H Q ⟨ρ, τ, S, s, r, p⟩ => by
  unfold mVar at p
  split at p
  · rename_i d e
    obtain ⟨v, h1, h2⟩ := r.2 i d e
    exact ⟨v, h1, p.here s h2⟩
  · exact p.elim
theorem z_c {v : V} {d : D} (h : PE X e (tC v)) (hv : ∀ ρ H, VR X.K ρ H v d) : PE X e (Em X.K W (mC d)) := PE_imp h fun σ H Q ⟨ρ, τ, S, s, r, p⟩ => p.here s (hv ρ H)
theorem z_int {i j} : PE X (.Constant (.int i) j pos) (Em X.K W (mC (.int i))) := z_c pe_int fun _ _ => .int i
theorem z_bl {i j} : PE X (.Constant (.bool i) j pos) (Em X.K W (mC (.bl i))) := z_c pe_bl fun _ _ => .bl i
theorem z_non {j} : PE X (.Constant .none j pos) (Em X.K W (mC .non)) := z_c pe_non fun _ _ => .non
theorem z_str {i j} : PE X (.Constant (.str i) j pos) (Em X.K W (mC (.str i))) := z_c pe_str fun _ _ => .str i
/-- a module's constant -/
theorem z_glob {x : Str} {v : V} {u : Value} {d : D} (hm : X.mg x = some u) (r : RelV v u) (hv : ∀ ρ H, VR X.K ρ H v d) (hg : Gl X x := by rfl) (hd : (x == ("__debug__" : Str)) = false := by decide) : PE X (.Name x pos) (Em X.K W (mC d)) :=
  z_c (pe_glob hg hm r hd) hv

/-! ### two things and an operator -/
def OpS (K : PySem.W.Frag) (f : D → D → Sto → R D) (r : R2) : Prop := ∀ (W : XK) (ρ : Pl) (S : Sto) (H : Hp) (x y : V) (dx dy : D) (Q : VK), SR K ρ S H → VR K ρ H x dx → VR K ρ H y dy → Post K W ρ H (f dx dy S) (VR K) Q → r x y H Q
def mBin (f : D → D → Sto → R D) (a b : ME) : ME := fun τ S => (a τ S).bind fun x S1 => (b τ S1).bind fun y S2 => f x y S2
theorem Em_op {K : PySem.W.Frag} {f : D → D → Sto → R D} {r : R2} (hs : OpS K f r) {σ : St} {H : Hp} {Q : VK} (h : Em K W (mBin f ma mb) σ H Q) : tOp r (Em K W ma) (Em K W mb) σ H Q := by
  obtain ⟨ρ, τ, S, s, e, p⟩ := h
  exact Em_bind s e p fun ρ1 H1 S1 v d s1 e1 x1 v1 p1 => Em_bind s1 e1 p1 fun ρ2 H2 S2 w d2 s2 e2 x2 v2 p2 => hs _ ρ2 S2 H2 v w d d2 Q s2 (v1.mono x2) v2 p2
theorem z_bin {op : Operator} {f : D → D → Sto → R D} {r : R2} (ho : OpR X (binaryOp op) r) (hs : OpS X.K f r) (ha : PE X a (Em X.K W ma)) (hb : PE X b (Em X.K W mb)) : PE X (.BinOp a op b pos) (Em X.K W (mBin f ma mb)) :=
  PE_imp (pe_op ho ha hb) fun σ H Q h => Em_op hs h
theorem z_cmp {op : CmpOp} {f : D → D → Sto → R D} {r : R2} (ho : OpR X (compareOp op) r) (hs : OpS X.K f r) (ha : PE X a (Em X.K W ma)) (hb : PE X b (Em X.K W mb)) (hm : behindInMarks op b = false := by first | exact nomark _ | rfl) : PE X (.Compare a [op] [b] pos) (Em X.K W (mBin f ma mb)) :=
  PE_imp (pe_cmpR ho ha hb hm) fun σ H Q h => Em_op hs h
/-- a thing that is a truth, as a test -/
def asB : D → Sto → R Bool
  | .bl b, S => .ok b S
  | _, _ => .bad
def mB (m : ME) : MT := fun τ S => (m τ S).bind asB
theorem asB_post {K : PySem.W.Frag} {Wk : XK} {ρ : Pl} {H : Hp} {S : Sto} {v : V} {d : D} {Q : Bool → Hp → Prop} (s : SR K ρ S H) (r : VR K ρ H v d) (h : Post K Wk ρ H (asB d S) relB Q) : ∃ k, v = .bl k ∧ Q k H := by
  unfold asB at h
  split at h
  · cases r
    exact ⟨_, rfl, h.here s rfl⟩
  · exact h.elim
theorem t_cmp {op : CmpOp} {f : D → D → Sto → R D} {r : R2} (ho : OpR X (compareOp op) r) (hs : OpS X.K f r) (ha : PE X a (Em X.K W ma)) (hb : PE X b (Em X.K W mb)) (hm : behindInMarks op b = false := by first | exact nomark _ | rfl) : PT X (.Compare a [op] [b] pos) (Tm X.K W (mB (mBin f ma mb))) :=
  PT_imp (pt_cmpR ho ha hb hm) fun σ H Q h => by
    obtain ⟨ρ, τ, S, s, e, p⟩ := h
    have p' : Post X.K (fun c d H' => W c d σ H') ρ H ((ma τ S).bind fun x S1 => ((mb τ S1).bind fun y S2 => f x y S2).bind asB) relB Q := by
      have : ((mBin f ma mb τ S).bind asB) = ((ma τ S).bind fun x S1 => ((mb τ S1).bind fun y S2 => f x y S2).bind asB) := by
        unfold mBin
        cases ma τ S <;> rfl
      rw [← this]; exact p
    refine Em_bind s e p' fun ρ1 H1 S1 v d s1 e1 x1 v1 p1 => ?_
    have p1' : Post X.K (fun c d H' => W c d σ H') ρ1 H1 ((mb τ S1).bind fun y S2 => (f d y S2).bind asB) relB Q := by
      have : (((mb τ S1).bind fun y S2 => f d y S2).bind asB) = ((mb τ S1).bind fun y S2 => (f d y S2).bind asB) := by
        cases mb τ S1 <;> rfl
      rw [← this]; exact p1
    refine Em_bind s1 e1 p1' fun ρ2 H2 S2 w d2 s2 e2 x2 v2 p2 => ?_
    refine hs _ ρ2 S2 H2 v w d d2 _ s2 (v1.mono x2) v2 (Post.bind p2 fun ρ3 H3 S3 z dz x3 s3 v3 p3 => asB_post s3 v3 p3)
/-- a < b < c -/
def mChain (f g : D → D → Sto → R D) (a b c : ME) : ME := fun τ S => (a τ S).bind fun x S1 => (b τ S1).bind fun y S2 => (f x y S2).bind fun k S3 => (asB k S3).bind fun k S3 =>
  if k = true then (c τ S3).bind fun z S4 => g y z S4 else .ok (.bl false) S3
theorem z_chain {op op' : CmpOp} {f g : D → D → Sto → R D} {r r' : R2} (ho : OpR X (compareOp op) r) (hs : OpS X.K f r) (ho' : OpR X (compareOp op') r') (hs' : OpS X.K g r') (ha : PE X a (Em X.K W ma)) (hb : PE X b (Em X.K W mb)) (hc : PE X c (Em X.K W mc)) 
    (h : PE X (.Compare a [op, op'] [b, c] pos) (tChain r r' (Em X.K W ma) (Em X.K W mb) (Em X.K W mc))) : PE X (.Compare a [op, op'] [b, c] pos) (Em X.K W (mChain f g ma mb mc)) :=
  PE_imp h fun σ H Q h => by
    obtain ⟨ρ, τ, S, s, e, p⟩ := h
    refine Em_bind s e p fun ρ1 H1 S1 v d s1 e1 x1 v1 p1 => ?_
    refine Em_bind s1 e1 p1 fun ρ2 H2 S2 w d2 s2 e2 x2 v2 p2 => ?_
    refine hs _ ρ2 S2 H2 v w d d2 _ s2 (v1.mono x2) v2 (Post.bind p2 fun ρ3 H3 S3 z dz x3 s3 v3 p3 => ?_)
    cases v3 with
    | bl k =>
      refine ⟨k, rfl, ?_⟩
      cases k with
      | true =>
        simp only [asB, R.bind_ok, if_true] at p3 ⊢
        exact Em_bind s3 (e2.mono x3) p3 fun ρ4 H4 S4 u d4 s4 e4 x4 v4 p4 => hs' _ ρ4 S4 H4 w u d2 d4 Q s4 ((v2.mono x3).mono x4) v4 p4
      | false =>
        simp only [asB, R.bind_ok] at p3 ⊢
        rw [if_neg (by decide)] at p3 ⊢
        exact p3.here s3 (.bl false)
    | _ => exact (show False from p3).elim

/-! ### truth -/
def ofO {A : Type} (o : Option A) (S : Sto) : R A := match o with | some a => .ok a S | none => .bad
@[simp] theorem ofO_some {A : Type} (a : A) (S : Sto) : ofO (some a) S = .ok a S := rfl
@[simp] theorem ofO_none {A : Type} (S : Sto) : ofO (none : Option A) S = .bad := rfl
def truP : D → Sto → Option Bool
  | .non, _ => some false
  | .bl b, _ => some b
  | .int i, _ => some (i != 0)
  | .str x, _ => if x.length ≤ sizeLine then some ((x.length : Int) != 0) else none
  | .tup ds, _ => some (!ds.isEmpty)
  | .ktup _, _ => none
  | .lst ds, _ => some (!ds.isEmpty)
  | .scr ds, _ => some (!ds.isEmpty)
  | .dct ks _, _ => some (!ks.isEmpty)
  | .loc l, S => match S[l]? with
    | some (.lst ds) => some (!ds.isEmpty)
    | some (.dK false kvs) => some (!kvs.isEmpty)
    | _ => none
  | .ob _, _ => none
  | .fn _, _ => none
def tru (d : D) (S : Sto) : R Bool := ofO (truP d S) S
theorem isEmpty_len {α β : Type} {l : List α} {m : List β} (h : l.length = m.length) : l.isEmpty = m.isEmpty := by
  cases l <;> cases m <;> first | rfl | simp at h
theorem truP_of {K : PySem.W.Frag} {ρ : Pl} {H : Hp} {S : Sto} {v : V} {d : D} {k : Bool} (s : SR K ρ S H) (r : VR K ρ H v d) (h : truP d S = some k) : TruV K v H k := by
  cases r with
  | non => exact (Option.some.inj h).symm
  | bl b => exact (Option.some.inj h).symm
  | int b => exact (Option.some.inj h).symm
  | str x =>
    simp only [truP] at h
    split at h
    · exact ⟨by assumption, (Option.some.inj h).symm⟩
    · cases h
  | tup ht ht2 hs =>
    obtain ⟨a, xs, e, h1, h2⟩ := tup_of (VR.tup ht ht2 hs)
    rw [e]
    exact .inr (.inl ⟨xs, h1, by rw [isEmpty_len h2.length]; exact (Option.some.inj h).symm⟩)
  | ktup _ _ => cases h
  | lst h1 h2 hs => exact .inl ⟨_, SqL.of h1, by rw [isEmpty_len hs.length]; exact (Option.some.inj h).symm⟩
  | scr h1 hs =>
    obtain ⟨a, xs, e, h1, h2⟩ := listR_of s (VR.scr h1 hs) rfl
    rw [e]
    exact .inl ⟨_, h1, by rw [isEmpty_len h2.length]; exact (Option.some.inj h).symm⟩
  | dct h1 h2 hk hs => exact .inr (.inr ⟨_, h1, by rw [← hk] at h; rw [← isEmpty_len (List.length_map (·.1))]; exact (Option.some.inj h).symm⟩)
  | @loc a l hl =>
    simp only [truP] at h
    split at h
    · rename_i ds e
      obtain ⟨xs, h1, h2⟩ := s.at hl e
      exact .inl ⟨xs, SqL.of h1, by rw [isEmpty_len h2.length]; exact (Option.some.inj h).symm⟩
    · rename_i kvs e
      obtain ⟨ws, h1, h2⟩ := s.at hl e
      exact .inr (.inr ⟨ws, h1, by rw [isEmpty_len h2.length]; exact (Option.some.inj h).symm⟩)
    · cases h
  | ob v => cases h
  | fn _ => cases h
theorem ofO_bind {K : PySem.W.Frag} {Wk : XK} {ρ : Pl} {H : Hp} {S : Sto} {A B C : Type} {o : Option A} {f : A → Sto → R B} {rel : Pl → Hp → C → B → Prop} {Q : C → Hp → Prop} (h : Post K Wk ρ H ((ofO o S).bind f) rel Q) : ∃ a, o = some a ∧ Post K Wk ρ H (f a S) rel Q := by
  cases o with
  | some a => exact ⟨a, rfl, h⟩
  | none => exact h.elim
theorem ofO_post {K : PySem.W.Frag} {Wk : XK} {ρ : Pl} {H : Hp} {S : Sto} {A C : Type} {o : Option A} {rel : Pl → Hp → C → A → Prop} {Q : C → Hp → Prop} (h : Post K Wk ρ H (ofO o S) rel Q) : ∃ a, o = some a ∧ Post K Wk ρ H (.ok a S) rel Q := by
  cases o with
  | some a => exact ⟨a, rfl, h⟩
  | none => exact h.elim
theorem tru_post {K : PySem.W.Frag} {Wk : XK} {ρ : Pl} {H : Hp} {S : Sto} {v : V} {d : D} {Q : Bool → Hp → Prop} (s : SR K ρ S H) (r : VR K ρ H v d) (h : Post K Wk ρ H (tru d S) relB Q) : ∃ k, TruV K v H k ∧ Q k H := by
  obtain ⟨k, e, p⟩ := ofO_post h
  exact ⟨k, truP_of s r e, p.here s rfl⟩
def mT (m : ME) : MT := fun τ S => (m τ S).bind tru
theorem t_tru (ha : PE X a (Em X.K W ma)) (he : ∀ whole, isTrue a X.env whole = (do let v ← whole; standAt a.pos; holding [v] (truthy v)) := by intro _; rfl) : PT X a (Tm X.K W (mT ma)) := PT_imp (pt_truth ha he) fun σ H Q h => by
  obtain ⟨ρ, τ, S, s, e, p⟩ := h
  exact Em_bind s e p fun ρ1 H1 S1 v d s1 e1 x1 v1 p1 => tru_post s1 v1 p1
def mAnd (a b : MT) : MT := fun τ S => (a τ S).bind fun k S1 => if k = true then b τ S1 else .ok false S1
def mOr (a b : MT) : MT := fun τ S => (a τ S).bind fun k S1 => if k = true then .ok true S1 else b τ S1
def mNot (a : MT) : MT := fun τ S => (a τ S).bind fun k S1 => .ok (!k) S1
variable {ta tb : MT} {rest : List Expr}
theorem w_and1 (ha : PT X a (Tm X.K W ta)) : PW X (.BoolOp .And [a] pos) (Tm X.K W ta) := pw_and1 ha
theorem w_or1 (ha : PT X a (Tm X.K W ta)) : PW X (.BoolOp .Or [a] pos) (Tm X.K W ta) := pw_or1 ha
theorem w_and (ha : PT X a (Tm X.K W ta)) (hb : PW X (.BoolOp .And (b :: rest) pos) (Tm X.K W tb)) : PW X (.BoolOp .And (a :: b :: rest) pos) (Tm X.K W (mAnd ta tb)) := PW_imp (pw_and ha hb) fun σ H Q h => by
  obtain ⟨ρ, τ, S, s, e, p⟩ := h
  refine Tm_bind s e p fun ρ1 H1 S1 k s1 e1 x1 p1 => ?_
  cases k with
  | true => exact iteT ⟨ρ1, τ, S1, s1, e1, p1⟩
  | false => exact iteF (p1.here s1 rfl)
theorem w_or (ha : PT X a (Tm X.K W ta)) (hb : PW X (.BoolOp .Or (b :: rest) pos) (Tm X.K W tb)) : PW X (.BoolOp .Or (a :: b :: rest) pos) (Tm X.K W (mOr ta tb)) := PW_imp (pw_or ha hb) fun σ H Q h => by
  obtain ⟨ρ, τ, S, s, e, p⟩ := h
  refine Tm_bind s e p fun ρ1 H1 S1 k s1 e1 x1 p1 => ?_
  cases k with
  | true => exact iteT (p1.here s1 rfl)
  | false => exact iteF ⟨ρ1, τ, S1, s1, e1, p1⟩
theorem t_not (ha : PT X a (Tm X.K W ta)) : PT X (.UnaryOp .Not a pos) (Tm X.K W (mNot ta)) := PT_imp (pt_not ha) fun σ H Q h => by
  obtain ⟨ρ, τ, S, s, e, p⟩ := h
  exact Tm_bind s e p fun ρ1 H1 S1 k s1 e1 x1 p1 => p1.here s1 rfl
/-- and, or, not as things -/
def mAndV (a b : ME) : ME := fun τ S => (a τ S).bind fun x S1 => (tru x S1).bind fun k S2 => if k = true then b τ S2 else .ok x S2
def mOrV (a b : ME) : ME := fun τ S => (a τ S).bind fun x S1 => (tru x S1).bind fun k S2 => if k = true then .ok x S2 else b τ S2
def mNotV (a : ME) : ME := fun τ S => (a τ S).bind fun x S1 => (tru x S1).bind fun k S2 => .ok (.bl (!k)) S2
theorem v_and1 (ha : PE X a (Em X.K W ma)) {op} : PE X (.BoolOp op [a] pos) (Em X.K W ma) := pe_one ha
variable {mr : ME}
theorem v_and (ha : PE X a (Em X.K W ma)) (hb : PE X (.BoolOp .And (b :: rest) pos) (Em X.K W mr)) : PE X (.BoolOp .And (a :: b :: rest) pos) (Em X.K W (mAndV ma mr)) := PE_imp (pe_andT ha hb) fun σ H Q h => by
  obtain ⟨ρ, τ, S, s, e, p⟩ := h
  refine Em_bind s e p fun ρ1 H1 S1 v d s1 e1 x1 v1 p1 => ?_
  obtain ⟨k, ek, p2⟩ := ofO_bind p1
  refine ⟨k, truP_of s1 v1 ek, ?_⟩
  cases k with
  | true => exact iteT ⟨ρ1, τ, S1, s1, e1, p2⟩
  | false => exact iteF (p2.here s1 v1)
theorem v_or (ha : PE X a (Em X.K W ma)) (hb : PE X (.BoolOp .Or (b :: rest) pos) (Em X.K W mr)) : PE X (.BoolOp .Or (a :: b :: rest) pos) (Em X.K W (mOrV ma mr)) := PE_imp (pe_orT ha hb) fun σ H Q h => by
  obtain ⟨ρ, τ, S, s, e, p⟩ := h
  refine Em_bind s e p fun ρ1 H1 S1 v d s1 e1 x1 v1 p1 => ?_
  obtain ⟨k, ek, p2⟩ := ofO_bind p1
  refine ⟨k, truP_of s1 v1 ek, ?_⟩
  cases k with
  | true => exact iteT (p2.here s1 v1)
  | false => exact iteF ⟨ρ1, τ, S1, s1, e1, p2⟩
theorem v_not (ha : PE X a (Em X.K W ma)) : PE X (.UnaryOp .Not a pos) (Em X.K W (mNotV ma)) := PE_imp (pe_notT ha) fun σ H Q h => by
  obtain ⟨ρ, τ, S, s, e, p⟩ := h
  refine Em_bind s e p fun ρ1 H1 S1 v d s1 e1 x1 v1 p1 => ?_
  obtain ⟨k, ek, p2⟩ := ofO_bind p1
  exact ⟨k, truP_of s1 v1 ek, p2.here s1 (.bl _)⟩
/-- a if t else b -/
def mIf (t : MT) (a b : ME) : ME := fun τ S => (t τ S).bind fun k S1 => if k = true then a τ S1 else b τ S1
theorem z_if (hc : PT X c (Tm X.K W ta)) (ha : PE X a (Em X.K W ma)) (hb : PE X b (Em X.K W mb)) : PE X (.IfExp c a b pos) (Em X.K W (mIf ta ma mb)) := PE_imp (pe_ifExp hc ha hb) fun σ H Q h => by
  obtain ⟨ρ, τ, S, s, e, p⟩ := h
  refine Tm_bind s e p fun ρ1 H1 S1 k s1 e1 x1 p1 => ?_
  cases k with
  | true => exact iteT ⟨ρ1, τ, S1, s1, e1, p1⟩
  | false => exact iteF ⟨ρ1, τ, S1, s1, e1, p1⟩
/-- -x -/
def dNeg : D → Sto → R D
  | .int i, S => .ok (.int (-i)) S
  | _, _ => .bad
def mUn (f : D → Sto → R D) (a : ME) : ME := fun τ S => (a τ S).bind f
theorem z_neg (ha : PE X a (Em X.K W ma)) : PE X (.UnaryOp .USub a pos) (Em X.K W (mUn dNeg ma)) := PE_imp (pe_un un_neg ha) fun σ H Q h => by
  obtain ⟨ρ, τ, S, s, e, p⟩ := h
  refine Em_bind s e p fun ρ1 H1 S1 v d s1 e1 x1 v1 p1 => ?_
  unfold dNeg at p1
  split at p1
  · cases v1
    exact ⟨_, rfl, p1.here s1 (.int _)⟩
  · exact p1.elim
/-! ### arguments, displays -/
def aNil : MA := fun _ S => .ok [] S
def aCons (a : ME) (r : MA) : MA := fun τ S => (a τ S).bind fun x S1 => (r τ S1).bind fun xs S2 => .ok (x :: xs) S2
variable {es : List Expr} {mas : MA}
theorem a_nil : PA X [] (Am X.K W aNil) := PA_imp pa_nil fun σ H Q ⟨ρ, τ, S, s, e, p⟩ => p.here s .nil
theorem a_cons (ha : PE X a (Em X.K W ma)) (hr : PA X es (Am X.K W mas)) (hs : starEach (a :: es) X.env = (false, eval a X.env) :: starEach es X.env := by rfl) : PA X (a :: es) (Am X.K W (aCons ma mas)) := PA_imp (pa_cons ha hr hs) fun σ H Q h => by
  obtain ⟨ρ, τ, S, s, e, p⟩ := h
  refine Em_bind s e p fun ρ1 H1 S1 v d s1 e1 x1 v1 p1 => ?_
  exact Am_bind s1 e1 p1 fun ρ2 H2 S2 vs ds s2 e2 x2 v2 p2 => p2.here s2 (.cons (v1.mono x2) v2)
def mTup (r : MA) : ME := fun τ S => (r τ S).bind fun xs S1 => guardR (xs.length ≤ sizeLine) (.ok (.tup xs) S1)
def mLst (r : MA) : ME := fun τ S => (r τ S).bind fun xs S1 => guardR (xs.length ≤ sizeLine) (.ok (.lst xs) S1)
/-- a list that will be changed -/
def mLstN (r : MA) : ME := fun τ S => (r τ S).bind fun xs S1 => guardR (xs.length ≤ sizeLine) (.ok (.loc S1.length) (S1 ++ [.lst xs]))
theorem z_tup {x1} (ha : PA X es (Am X.K W mas)) : PE X (.Tuple es x1 pos) (Em X.K W (mTup mas)) := PE_imp (pe_tup ha) fun σ H Q h => by
  obtain ⟨ρ, τ, S, s, e, p⟩ := h
  refine Am_bind s e p fun ρ1 H1 S1 vs ds s1 e1 x1 v1 p1 => ?_
  obtain ⟨hz, p2⟩ := guardR_post p1
  exact ⟨by rw [v1.length]; exact hz, p2.newTup s1 v1⟩
theorem z_lst (ha : PA X es (Am X.K W mas)) : PE X (.List es pos) (Em X.K W (mLst mas)) := PE_imp (pe_lst ha) fun σ H Q h => by
  obtain ⟨ρ, τ, S, s, e, p⟩ := h
  refine Am_bind s e p fun ρ1 H1 S1 vs ds s1 e1 x1 v1 p1 => ?_
  obtain ⟨hz, p2⟩ := guardR_post p1
  exact ⟨by rw [v1.length]; exact hz, p2.newLst s1 v1⟩
theorem Post.newLoc {K : PySem.W.Frag} {Wk : XK} {ρ : Pl} {H : Hp} {S : Sto} {Q : VK} {ds : List D} (h : Post K Wk ρ H (.ok (.loc S.length) (S ++ [.lst ds])) (VR K) Q) (s : SR K ρ S H) {xs : List V} (r : VRs K ρ H xs ds) : ∀ p, H p = none → Q (.ref p) (upd H p (.lst xs)) := fun p hp =>
  h (ρ.push p) _ _ (Ext.push hp) (s.push hp ⟨xs, upd_same, r.mono (Ext.push hp)⟩) (.loc (Pl.push_get s))
theorem z_lstN (ha : PA X es (Am X.K W mas)) : PE X (.List es pos) (Em X.K W (mLstN mas)) := PE_imp (pe_lst ha) fun σ H Q h => by
  obtain ⟨ρ, τ, S, s, e, p⟩ := h
  refine Am_bind s e p fun ρ1 H1 S1 vs ds s1 e1 x1 v1 p1 => ?_
  obtain ⟨hz, p2⟩ := guardR_post p1
  exact ⟨by rw [v1.length]; exact hz, p2.newLoc s1 v1⟩

/-! ### calls -/
/-- a built-in by what it does of its arguments -/
def CallS (K : PySem.W.Frag) (f : List D → Sto → R D) (r : List V → Hp → VK → Prop) : Prop := ∀ (Wk : XK) (ρ : Pl) (S : Sto) (H : Hp) (vs : List V) (ds : List D) (Q : VK), SR K ρ S H → VRs K ρ H vs ds → Post K Wk ρ H (f ds S) (VR K) Q → r vs H Q
def mCall (f : List D → Sto → R D) (r : MA) : ME := fun τ S => (r τ S).bind f
theorem Em_call {K : PySem.W.Frag} {f : List D → Sto → R D} {r : List V → Hp → VK → Prop} (hs : CallS K f r) {σ : St} {H : Hp} {Q : VK} (h : Em K W (mCall f mas) σ H Q) : tCB r (Am K W mas) σ H Q := by
  obtain ⟨ρ, τ, S, s, e, p⟩ := h
  exact Am_bind s e p fun ρ1 H1 S1 vs ds s1 e1 x1 v1 p1 => hs _ ρ1 S1 H1 vs ds Q s1 v1 p1
variable {x : Str} {p : Pos} {id T : String} {r : List V → Hp → VK → Prop} {f : List D → Sto → R D}
theorem z_blt (hm : X.mg x = none) (hc : CallR X (.builtin id) r) (hs : CallS X.K f r) (hv : bootBuiltins x = some (.builtin id)) (ha : PA X (e :: es) (Am X.K W mas)) (hg : Gl X x := by rfl) (hn : x ≠ "__name__" := by decide) (hdb : (x == ("__debug__" : Str)) = false := by decide)
    (he : starEach (e :: es) X.env = (false, eval e X.env) :: starEach es X.env := by rfl) (hpl : (backTo pos (starEach es X.env)).any (·.1) = false := by rfl) : PE X (.Call (.Name x p) (e :: es) [] pos) (Em X.K W (mCall f mas)) :=
  PE_imp (pe_callB hc hg hm hv ha hn hdb he hpl) fun σ H Q h => Em_call hs h
theorem z_typ (hm : X.mg x = none) (hc : CallR X (.type T) r) (hs : CallS X.K f r) (hv : bootBuiltins x = some (.type T)) (ha : PA X (e :: es) (Am X.K W mas)) (hg : Gl X x := by rfl) (hn : x ≠ "__name__" := by decide) (hdb : (x == ("__debug__" : Str)) = false := by decide)
    (he : starEach (e :: es) X.env = (false, eval e X.env) :: starEach es X.env := by rfl) (hpl : (backTo pos (starEach es X.env)).any (·.1) = false := by rfl) : PE X (.Call (.Name x p) (e :: es) [] pos) (Em X.K W (mCall f mas)) :=
  PE_imp (pe_callTy hc hg hm hv ha hn hdb he hpl) fun σ H Q h => Em_call hs h
/-- a def's promise: it does what f says -/
def Sf (K : PySem.W.Frag) (f : List D → Sto → R D) : Sp := fun vs H Q E => ∃ ρ S ds, SR K ρ S H ∧ VRs K ρ H vs ds ∧ Post K E ρ H (f ds S) (VR K) Q
/-- a def that keeps its promise wherever it is called with room and no repr under way -/
structure FnG (P : Program) (w : World) (K : PySem.W.Frag) (mg : Str → Option Value) (base : Heap) (k : Nat) (g : Addr) (fd : FuncData) (ps : List Str) (f : List D → Sto → R D) : Prop where
  len : ∀ (ds : List D) (S : Sto), f ds S ≠ .bad → ds.length = ps.length
  run : ∀ (A : Around) (frs : List Env) (st : Shared) (H : Hp) (ar : Args) (us : List Value) (vs : List V) (Q : VK) (E : XK), Room k A → A.guards = some [] → Env0 P w K mg base A frs st H →
    BindsTo st fd ar (ps.zip us) → Vals vs us → Sf K f vs H Q E → codeAny (model P w) A (.call (.ref g) ar) (L2.CR (L2.CX P w) frs P w H st Q E) st
theorem Post.nbad {K : PySem.W.Frag} {Wk : XK} {ρ : Pl} {H : Hp} {A B : Type} {o : R A} {rel : Pl → Hp → B → A → Prop} {Q : B → Hp → Prop} (h : Post K Wk ρ H o rel Q) : o ≠ .bad := by
  rintro rfl; exact h.elim
theorem FnG.lenV {P : Program} {w : World} {K : PySem.W.Frag} {mg : Str → Option Value} {base : Heap} {k : Nat} {g : Addr} {fd : FuncData} {ps : List Str} (F : FnG P w K mg base k g fd ps f) {vs : List V} {H : Hp} {Q : VK} {E : XK} (h : Sf K f vs H Q E) : vs.length = ps.length := by
  obtain ⟨ρ, S, ds, s, v, p⟩ := h
  rw [v.length]; exact F.len ds S p.nbad
/-- the def at g is run on arguments in hand -/
theorem run_G {pins : List (Addr × Obj)} {st : Shared} {σ : St} {H : Hp} {Q : VK} {us : List Value} {vs : List V} {k : Nat} {g : Addr} {fd : FuncData} {ps : List Str} (F : FnG X.prog X.w X.K X.mg X.base k g fd ps f) (hr : Room k X.A) (hgd : X.A.guards = some []) (hb : Binds X.K fd ps [])
    (hx : ∀ σ, PassesAt (L2.CX X.prog X.w) X σ (fun c d H => W c d σ H)) (I : Inv X pins σ H st) (r : Vals vs us) (h : Sf X.K f vs H Q (fun c d H => W c d σ H)) : wpAny (model X.prog X.w) X.A (call (.ref g) us) (EP X pins σ Q) X.xe st := by
  have hl : (us ++ []).length = ps.length := by rw [List.append_nil, ← r.length]; exact F.lenV h
  have hb' := hb st us I.kIn hl
  rw [List.append_nil] at hb'
  have main := F.run X.A X.stack st H _ us vs Q _ hr hgd I.env0 hb' r h
  refine wpAny_call (codeAny_mono main ?_)
  intro res st' q
  match res, q with
  | .error e, q => exact hx σ pins H st e st' I q
  | .ok (.ret u), q => exact I.after q
  | .ok .next, q => exact False.elim q
  | .ok .brk, q => exact False.elim q
  | .ok .cont, q => exact False.elim q
theorem z_call {k : Nat} {g : Addr} {fd : FuncData} {ps : List Str} (F : FnG X.prog X.w X.K X.mg X.base k g fd ps f) (hr : Room k X.A) (hgd : X.A.guards = some []) (hm : X.mg x = some (.ref g)) (hk : PySem.W.keepIn X.K (.ref g) = true) (hb : Binds X.K fd ps [])
    (hx : ∀ σ, PassesAt (L2.CX X.prog X.w) X σ (fun c d H => W c d σ H)) (ha : PA X (e :: es) (Am X.K W mas)) (hg : Gl X x := by rfl) (hdb : (x == ("__debug__" : Str)) = false := by decide)
    (he : starEach (e :: es) X.env = (false, eval e X.env) :: starEach es X.env := by rfl) (hpl : (backTo pos (starEach es X.env)).any (·.1) = false := by rfl) : PE X (.Call (.Name x p) (e :: es) [] pos) (Em X.K W (mCall f mas)) := by
  constructor
  intro pins st σ H Q I h
  obtain ⟨ρ, τ, S, s, er, po⟩ := h
  have args := ha.run pos pins st σ H (fun vs H1 => Sf X.K f vs H1 Q (fun c d H => W c d σ H)) I (Am_bind s er po fun ρ1 H1 S1 vs ds s1 e1 x1 v1 p1 => ⟨ρ1, S1, ds, s1, v1, p1⟩)
  apply wpAny_Call_Name_kw
  apply ld_glob I hg hm _ hdb
  apply PySem.W.callWith_K (h₀ := X.base) I.ok.mod.kin hk _ he hpl
  apply thn args
  rintro us s1 ⟨vs, H1, I1, r, q⟩
  exact ⟨I1.kIn, run_G F hr hgd hb hx I1 r q⟩
/-- nothing is let out where nothing is let out -/
theorem no_out : ∀ σ, PassesAt (L2.CX X.prog X.w) X σ (fun _ _ _ => False) := fun σ _ _ _ _ _ _ h => by
  obtain ⟨_, _, _, _, _, _, _, _, _, _, _, _, z⟩ := h
  exact z.elim
end
/-! ### a def by its body -/
inductive RS where
  | nx (τ : Tau) (S : Sto) | rt (d : D) (S : Sto) | bk (τ : Tau) (S : Sto) | ct (τ : Tau) (S : Sto) | ex (τ : Tau) (c : Str) (fs : List (Str × D)) (S : Sto) | bad
abbrev MS := Tau → Sto → RS
def PostS (K : PySem.W.Frag) (W : WX) (ρ : Pl) (H : Hp) (σ : St) (o : RS) (D : Ends) : Prop := match o with
  | .nx τ' S' => ∀ ρ' σ' H', Ext ρ H ρ' H' → SR K ρ' S' H' → ER K ρ' H' τ' σ' → D.nx σ' H'
  | .bk τ' S' => ∀ ρ' σ' H', Ext ρ H ρ' H' → SR K ρ' S' H' → ER K ρ' H' τ' σ' → D.bk σ' H'
  | .ct τ' S' => ∀ ρ' σ' H', Ext ρ H ρ' H' → SR K ρ' S' H' → ER K ρ' H' τ' σ' → D.ct σ' H'
  | .rt d S' => ∀ ρ' H' v, Ext ρ H ρ' H' → SR K ρ' S' H' → VR K ρ' H' v d → D.rt v H'
  | .ex τ' c fs S' => ∀ ρ' σ' H' dd, Ext ρ H ρ' H' → SR K ρ' S' H' → ER K ρ' H' τ' σ' → XD K ρ' H' dd fs → W (clsAt K c) dd σ' H'
  | .bad => False
def Sm (K : PySem.W.Frag) (W : WX) (m : MS) : TS := fun D σ H => ∃ ρ τ S, SR K ρ S H ∧ ER K ρ H τ σ ∧ PostS K W ρ H σ (m τ S) D
end Z

/-! Z3: statements, targets, loops, comprehensions, what is walked. -/
namespace Z
open PySem L2

theorem PostS.ext {K : PySem.W.Frag} {W : WX} {ρ ρ1 : Pl} {H H1 : Hp} {σ σ1 : St} {o : RS} {D : Ends} (e : Ext ρ H ρ1 H1) (h : PostS K W ρ H σ o D) : PostS K W ρ1 H1 σ1 o D := by
  cases o with
  | nx τ S => exact fun r2 s2 H2 e2 => h r2 s2 H2 (e.trans e2)
  | bk τ S => exact fun r2 s2 H2 e2 => h r2 s2 H2 (e.trans e2)
  | ct τ S => exact fun r2 s2 H2 e2 => h r2 s2 H2 (e.trans e2)
  | rt d S => exact fun r2 H2 v e2 => h r2 H2 v (e.trans e2)
  | ex τ c fs S => exact fun r2 s2 H2 dd e2 => h r2 s2 H2 dd (e.trans e2)
  | bad => exact h
def liftS {A : Type} (o : R A) (τ : Tau) (k : A → Sto → RS) : RS := match o with
  | .ok a S => k a S
  | .ex c fs S => .ex τ c fs S
  | .bad => .bad
@[simp] theorem liftS_ok {A : Type} (a : A) (S : Sto) (τ : Tau) (k : A → Sto → RS) : liftS (.ok a S) τ k = k a S := rfl
@[simp] theorem liftS_ex {A : Type} (c fs) (S : Sto) (τ : Tau) (k : A → Sto → RS) : liftS (.ex c fs S) τ k = .ex τ c fs S := rfl
@[simp] theorem liftS_bad {A : Type} (τ : Tau) (k : A → Sto → RS) : liftS (.bad) τ k = .bad := rfl
section
variable {K : PySem.W.Frag} {W : WX} {σ : St} {H : Hp} {ρ : Pl} {τ : Tau} {S : Sto} {D : Ends}
theorem liftS_post {A B : Type} {o : R A} {k : A → Sto → RS} {rel : Pl → Hp → B → A → Prop} {Q1 : B → Hp → Prop} (r : ER K ρ H τ σ) (h : PostS K W ρ H σ (liftS o τ k) D)
    (kk : ∀ ρ1 H1 S1 v d, SR K ρ1 S1 H1 → ER K ρ1 H1 τ σ → Ext ρ H ρ1 H1 → rel ρ1 H1 v d → PostS K W ρ1 H1 σ (k d S1) D → Q1 v H1) : Post K (fun c d H' => W c d σ H') ρ H o rel Q1 := by
  cases o with
  | ok d S' => exact fun r2 H2 v e2 s2 v2 => kk r2 H2 S' v d s2 (r.mono e2) e2 v2 (PostS.ext e2 h)
  | ex c fs S' => exact fun r2 H2 dd e2 s2 x2 => h r2 σ H2 dd e2 s2 (r.mono e2) x2
  | bad => exact h
theorem Em_S {m : ME} {k : V → Sto → RS} {kd : Z.D → Sto → RS} {Q1 : VK} (s : SR K ρ S H) (r : ER K ρ H τ σ) (h : PostS K W ρ H σ (liftS (m τ S) τ kd) D)
    (kk : ∀ ρ1 H1 S1 v d, SR K ρ1 S1 H1 → ER K ρ1 H1 τ σ → Ext ρ H ρ1 H1 → VR K ρ1 H1 v d → PostS K W ρ1 H1 σ (kd d S1) D → Q1 v H1) : Em K W m σ H Q1 := ⟨ρ, τ, S, s, r, liftS_post r h kk⟩
theorem Tm_S {m : MT} {kd : Bool → Sto → RS} {Q1 : Bool → Hp → Prop} (s : SR K ρ S H) (r : ER K ρ H τ σ) (h : PostS K W ρ H σ (liftS (m τ S) τ kd) D)
    (kk : ∀ ρ1 H1 S1 b, SR K ρ1 S1 H1 → ER K ρ1 H1 τ σ → Ext ρ H ρ1 H1 → PostS K W ρ1 H1 σ (kd b S1) D → Q1 b H1) : Tm K W m σ H Q1 := ⟨ρ, τ, S, s, r, liftS_post r h fun ρ1 H1 S1 v d s1 r1 e1 v1 p1 => by
      have v1' : v = d := v1
      subst v1'; exact kk ρ1 H1 S1 v s1 r1 e1 p1⟩
theorem Am_S {m : MA} {kd : List Z.D → Sto → RS} {Q1 : List V → Hp → Prop} (s : SR K ρ S H) (r : ER K ρ H τ σ) (h : PostS K W ρ H σ (liftS (m τ S) τ kd) D)
    (kk : ∀ ρ1 H1 S1 v d, SR K ρ1 S1 H1 → ER K ρ1 H1 τ σ → Ext ρ H ρ1 H1 → VRs K ρ1 H1 v d → PostS K W ρ1 H1 σ (kd d S1) D → Q1 v H1) : Am K W m σ H Q1 := ⟨ρ, τ, S, s, r, liftS_post r h kk⟩
theorem PostS.here (h : PostS K W ρ H σ (.nx τ S) D) (s : SR K ρ S H) {σ' : St} (r : ER K ρ H τ σ') : D.nx σ' H := h ρ σ' H Ext.refl s r
theorem ER.set {v : V} {d : Z.D} (r : ER K ρ H τ σ) (i : Nat) (h : VR K ρ H v d) : ER K ρ H (τ.set i (some d)) (σ.set i (some v)) := by
  refine ⟨by simp [r.1], fun j e hj => ?_⟩
  by_cases hi : j = i
  · subst hi
    have hl : j < τ.length := by
      have := (List.getElem?_eq_some_iff.mp hj).1
      simpa using this
    rw [List.getElem?_set_self hl] at hj
    cases hj
    refine ⟨v, ?_, h⟩
    rw [List.getElem?_set_self (by rw [← r.1]; exact hl)]
  · rw [List.getElem?_set_ne (Ne.symm hi)] at hj
    obtain ⟨w, h1, h2⟩ := r.2 j e hj
    exact ⟨w, by rw [List.getElem?_set_ne (Ne.symm hi)]; exact h1, h2⟩
end

/-! ### small statements -/
def sNil : MS := fun τ S => .nx τ S
def sSeq (a b : MS) : MS := fun τ S => match a τ S with
  | .nx τ' S' => b τ' S'
  | o => o
def sExpr (m : ME) : MS := fun τ S => liftS (m τ S) τ fun _ S1 => .nx τ S1
def sRet (m : ME) : MS := fun τ S => liftS (m τ S) τ fun d S1 => .rt d S1
def sIf (t : MT) (a b : MS) : MS := fun τ S => liftS (t τ S) τ fun k S1 => if k = true then a τ S1 else b τ S1
def sAsg (i : Nat) (m : ME) : MS := fun τ S => liftS (m τ S) τ fun d S1 => .nx (τ.set i (some d)) S1
def sBad : MS := fun _ _ => .bad
def sBk : MS := fun τ S => .bk τ S
section
variable {X : Cx} {W : WX} {st : Stmt} {rest body : List Stmt} {m n : MS} {e : Expr} {me : ME} {t : MT} {pos : Pos}
theorem ss_nil : PSs X [] (Sm X.K W sNil) := PSs_imp pss_nil fun D σ H ⟨ρ, τ, S, s, r, p⟩ => p.here s r
theorem ss_cons (h1 : PS X st (Sm X.K W m)) (h2 : PSs X rest (Sm X.K W n)) : PSs X (st :: rest) (Sm X.K W (sSeq m n)) := PSs_imp (pss_cons h1 h2) fun D σ H ⟨ρ, τ, S, s, r, p⟩ => by
  refine ⟨ρ, τ, S, s, r, ?_⟩
  unfold sSeq at p
  cases q : m τ S with
  | nx τ' S' =>
    rw [q] at p
    exact fun ρ' σ' H' e' s' r' => ⟨ρ', τ', S', s', r', PostS.ext e' p⟩
  | _ => rw [q] at p; exact p
theorem ss_one (h1 : PS X st (Sm X.K W m)) : PSs X [st] (Sm X.K W m) := pss_one h1
theorem s_bad : PS X st (Sm X.K W sBad) := PS_imp ps_never fun D σ H ⟨ρ, τ, S, s, r, p⟩ => p.elim
theorem s_expr (he : PE X e (Em X.K W me)) (hs : swapsWith e none pos.line X.env = pure false := by rfl) : PS X (.Expr e pos) (Sm X.K W (sExpr me)) := PS_imp (ps_expr he hs) fun D σ H ⟨ρ, τ, S, s, r, p⟩ =>
  Em_S (k := fun _ _ => .bad) s r p fun ρ1 H1 S1 v d s1 r1 e1 v1 p1 => p1.here s1 r1
theorem s_ret (he : PE X e (Em X.K W me)) : PS X (.Return (some e) pos) (Sm X.K W (sRet me)) := PS_imp (ps_ret he) fun D σ H ⟨ρ, τ, S, s, r, p⟩ =>
  Em_S (k := fun _ _ => .bad) s r p fun ρ1 H1 S1 v d s1 r1 e1 v1 p1 => p1 ρ1 H1 v Ext.refl s1 v1
theorem s_if {c : Expr} {a b : List Stmt} (hc : PT X c (Tm X.K W t)) (ha : PSs X a (Sm X.K W m)) (hb : PSs X b (Sm X.K W n)) : PS X (.If c a b pos) (Sm X.K W (sIf t m n)) := PS_imp (ps_if hc ha hb) fun D σ H ⟨ρ, τ, S, s, r, p⟩ =>
  Tm_S s r p fun ρ1 H1 S1 k s1 r1 e1 p1 => by
    cases k with
    | true => exact iteT ⟨ρ1, τ, S1, s1, r1, p1⟩
    | false => exact iteF ⟨ρ1, τ, S1, s1, r1, p1⟩
theorem s_set0 {i : Nat} {x : Str} {pos' : Pos} (he : PE X e (Em X.K W me)) (h : PS X (.Assign [.Name x pos'] e pos) (tAsg (Em X.K W me) (gName i))) : PS X (.Assign [.Name x pos'] e pos) (Sm X.K W (sAsg i me)) := PS_imp h fun D σ H ⟨ρ, τ, S, s, r, p⟩ =>
  Em_S (k := fun _ _ => .bad) s r p fun ρ1 H1 S1 v d s1 r1 e1 v1 p1 => p1.here s1 (r1.set i v1)
end

/-! ### targets of names -/
inductive Tgt where | nm (i : Nat) | tp (is : List Nat)
def setAll : List Nat → List D → Tau → Option Tau
  | [], [], τ => some τ
  | i :: is, d :: ds, τ => setAll is ds (τ.set i (some d))
  | _, _, _ => none
def bindT : Tgt → D → Tau → Option Tau
  | .nm i, d, τ => some (τ.set i (some d))
  | .tp is, .tup ds, τ => setAll is ds τ
  | .tp _, _, _ => none
def gNames : List Nat → TGs
  | [] => gNil
  | i :: is => gCons (gName i) (gNames is)
def tgOf (K : PySem.W.Frag) : Tgt → TG
  | .nm i => gName i
  | .tp is => gTup K is.length (gNames is)
def Tgt.ix : Tgt → List Nat
  | .nm i => [i]
  | .tp is => is
/-- the slots differ at the places alone -/
def Diff (is : List Nat) (σ σ' : St) : Prop := σ'.length = σ.length ∧ ∀ j, j ∉ is → σ'[j]? = σ[j]?
theorem gNames_of {K : PySem.W.Frag} {ρ : Pl} {H : Hp} {Q : St → Hp → Prop} : ∀ (is : List Nat) (ds : List D) (vs : List V) (τ τ' : Tau) (σ : St), setAll is ds τ = some τ' → VRs K ρ H vs ds → ER K ρ H τ σ → (∀ σ', ER K ρ H τ' σ' → Diff is σ σ' → Q σ' H) → gNames is vs σ H Q
  | [], ds, vs, τ, τ', σ, h, r, e, k => by
    cases ds with
    | nil =>
      cases r
      simp only [setAll, Option.some.injEq] at h
      subst h
      exact ⟨rfl, k σ e ⟨rfl, fun _ _ => rfl⟩⟩
    | cons d ds => simp [setAll] at h
  | i :: is, ds, vs, τ, τ', σ, h, r, e, k => by
    cases r with
    | nil => simp [setAll] at h
    | cons r rs =>
      simp only [setAll] at h
      refine ⟨_, _, rfl, ?_⟩
      refine gNames_of is _ _ _ τ' _ h rs (e.set i r) fun σ' e' d' => k σ' e' ⟨d'.1.trans (by simp), fun j hj => ?_⟩
      have hj' : j ≠ i ∧ j ∉ is := by simpa using hj
      rw [d'.2 j hj'.2, List.getElem?_set_ne (Ne.symm hj'.1)]
theorem tgOf_of {K : PySem.W.Frag} {ρ : Pl} {H : Hp} {Q : St → Hp → Prop} {g : Tgt} {d : D} {v : V} {τ τ' : Tau} {σ : St} (h : bindT g d τ = some τ') (r : VR K ρ H v d) (e : ER K ρ H τ σ) (k : ∀ σ', ER K ρ H τ' σ' → Diff g.ix σ σ' → Q σ' H) : tgOf K g v σ H Q := by
  cases g with
  | nm i =>
    simp only [bindT, Option.some.injEq] at h
    subst h
    exact k _ (e.set i r) ⟨by simp, fun j hj => by
      have : j ≠ i := by simpa [Tgt.ix] using hj
      rw [List.getElem?_set_ne (Ne.symm this)]⟩
  | tp is =>
    cases d with
    | tup ds =>
      obtain ⟨a, xs, rfl, ht, hs⟩ := tup_of r
      refine ⟨a, xs, rfl, ht, ?_, gNames_of is ds xs τ τ' σ h hs e k⟩
      have : ∀ (is : List Nat) (ds : List D) (τ τ' : Tau), setAll is ds τ = some τ' → ds.length = is.length := by
        intro is
        induction is with
        | nil => intro ds τ τ' h; cases ds <;> simp [setAll] at h ⊢
        | cons i is ih => intro ds τ τ' h; cases ds with
          | nil => simp [setAll] at h
          | cons d ds => simp only [setAll] at h; simp [ih _ _ _ h]
      rw [hs.length]; exact this _ _ _ _ h
    | _ => simp [bindT] at h
/-- (a, b, ..) = e, by a tuple -/
def sTup (is : List Nat) (m : ME) : MS := fun τ S => liftS (m τ S) τ fun d S1 => match bindT (.tp is) d τ with
  | some τ' => .nx τ' S1
  | none => .bad
section
variable {X : Cx} {W : WX} {e tg : Expr} {me : ME} {pos : Pos}
theorem s_tup {is : List Nat} (he : PE X e (Em X.K W me)) (hg : PG X tg (tgOf X.K (.tp is))) (hs : swapsWithSole [tg] e pos.line X.env = pure false := by rfl) (hw : swappedStores [tg] e X.env = pure none := by rfl)
    (h1 : (assignEach [tg] X.env).map (·.2) = [assign tg X.env] := by rfl) : PS X (.Assign [tg] e pos) (Sm X.K W (sTup is me)) := PS_imp (ps_asg he hg hs hw h1) fun D σ H ⟨ρ, τ, S, s, r, p⟩ =>
  Em_S (k := fun _ _ => .bad) s r p fun ρ1 H1 S1 v d s1 r1 e1 v1 p1 => by
    split at p1
    · rename_i τ' e
      exact tgOf_of e v1 r1 fun σ' r' _ => p1.here s1 r'
    · exact p1.elim
/-- a, b = x, y | a, b, c = x, y, z : plain names, no tuple made -/
def sPar (is : List Nat) (ms : MA) : MS := fun τ S => liftS (ms τ S) τ fun ds S1 => match setAll is ds τ with
  | some τ' => .nx τ' S1
  | none => .bad
theorem s_par2 {i j : Nat} {mas : MA} {st : Stmt} (hij : i ≠ j) {es : List Expr} (ha : PA X es (Am X.K W mas)) (h : PS X st (tPar i j (Am X.K W mas))) : PS X st (Sm X.K W (sPar [i, j] mas)) := PS_imp h fun D σ H ⟨ρ, τ, S, s, r, p⟩ =>
  Am_S s r p fun ρ1 H1 S1 vs ds s1 r1 e1 v1 p1 => by
    cases v1 with
    | nil => exact p1.elim
    | cons a1 v2 => cases v2 with
      | nil => exact p1.elim
      | cons a2 v3 => cases v3 with
        | nil => exact ⟨_, _, rfl, PostS.here p1 s1 ((r1.set i a1).set j a2)⟩
        | cons a3 v4 => exact p1.elim
end

/-! ### what is walked -/
def keepOk (ks : List (Nat × C)) (S : Sto) : Prop := ∀ p ∈ ks, S[p.1]? = some p.2
structure Items where
  ds : List D
  keep : List (Nat × C)
abbrev MI := Tau → Sto → R Items
/-- from a heap on the iterator J gives the things ds, while the cells of keep stand -/
def IterOK (K : PySem.W.Frag) (ρ0 : Pl) (H0 : Hp) (J : It) (it : Items) : Prop := ∀ ρ H S, Ext ρ0 H0 ρ H → SR K ρ S H → keepOk it.keep S →
  (∀ i, i < it.ds.length → J.go i H) ∧ J.stop it.ds.length H ∧ ∀ i x H', i < it.ds.length → J.yld i H x H' → ∃ d, it.ds[i]? = some d ∧ Ext ρ H ρ H' ∧ SR K ρ S H' ∧ VR K ρ H' x d
def Im (K : PySem.W.Frag) (W : WX) (m : MI) : TI := fun σ H R' => ∃ ρ τ S, SR K ρ S H ∧ ER K ρ H τ σ ∧ match m τ S with
  | .ok it S' => ∀ ρ' H' J, Ext ρ H ρ' H' → SR K ρ' S' H' → keepOk it.keep S' → IterOK K ρ' H' J it → R' J H'
  | .ex c fs S' => ∀ ρ' H' dd, Ext ρ H ρ' H' → SR K ρ' S' H' → XD K ρ' H' dd fs → W (clsAt K c) dd σ H'
  | .bad => False
theorem PI_imp {X : Cx} {tg e : Expr} {t t' : TI} (h : PI X tg e t) (k : ∀ σ H Q, t' σ H Q → t σ H Q) : PI X tg e t' := ⟨fun pins s σ H Q I w => h.run pins s σ H Q I (k σ H Q w)⟩

/-- whether the cells stand -/
noncomputable def keepB (ks : List (Nat × C)) (S : Sto) : Bool := @decide (keepOk ks S) (Classical.propDecidable _)
theorem keepB_iff {ks : List (Nat × C)} {S : Sto} : keepB ks S = true ↔ keepOk ks S := by unfold keepB; exact @decide_eq_true_iff _ (Classical.propDecidable _)
@[simp] theorem keepB_nil (S : Sto) : keepB [] S = true := keepB_iff.mpr (fun _ h => nomatch h)
/-- the turns of a for -/
noncomputable def forL (ks : List (Nat × C)) (g : Tgt) (body : MS) : List D → Tau → Sto → RS
  | [], τ, S => if keepB ks S = true then .nx τ S else .bad
  | d :: ds, τ, S => if keepB ks S = true then (match bindT g d τ with
    | none => .bad
    | some τ1 => match body τ1 S with
      | .nx τ2 S2 => forL ks g body ds τ2 S2
      | .ct τ2 S2 => forL ks g body ds τ2 S2
      | .bk τ2 S2 => .nx τ2 S2
      | o => o) else .bad
noncomputable def sFor (it : MI) (g : Tgt) (body : MS) : MS := fun τ S => liftS (it τ S) τ fun i S1 => forL i.keep g body i.ds τ S1
section
variable {X : Cx} {W : WX} {iter tg : Expr} {body : List Stmt} {mi : MI} {g : Tgt} {mb : MS} {pos : Pos}
theorem drop_cons {α : Type} {l : List α} {i : Nat} {d : α} (h : l[i]? = some d) : l.drop i = d :: l.drop (i + 1) := by
  obtain ⟨hl, e⟩ := List.getElem?_eq_some_iff.mp h
  rw [List.drop_eq_getElem_cons hl, e]
theorem s_for (hp : PassesOwn (model X.prog X.w) X.A X.env X.xe) (hc : X.calm = true) (hi : PI X tg iter (Im X.K W mi)) (hg : PG X tg (tgOf X.K g)) (hb : PSs X body (Sm X.K W mb))
    (hs : ∀ x, foldedSetIterable iter X.env x = pure x := by intro _; rfl) : PS X (.For tg iter body [] pos) (Sm X.K W (sFor mi g mb)) := PS_imp (ps_for hp hc hi hg hb hs) fun D σ H ⟨ρ, τ, S, s, r, p⟩ => by
  refine ⟨ρ, τ, S, s, r, ?_⟩
  unfold sFor at p
  cases q : mi τ S with
  | bad => rw [q] at p; exact p
  | ex c fs S' =>
    rw [q] at p
    exact fun ρ' H' dd e' s' x' => p ρ' σ H' dd e' s' (r.mono e') x'
  | ok it S1 =>
    rw [q] at p
    intro ρ1 H1 J e1 s1 k1 ok
    refine ⟨fun i m σ H => m = it.ds.length - i ∧ i ≤ it.ds.length ∧ ∃ ρ τ S, SR X.K ρ S H ∧ ER X.K ρ H τ σ ∧ Ext ρ1 H1 ρ H ∧ PostS X.K W ρ H σ (forL it.keep g mb (it.ds.drop i) τ S) D, ⟨it.ds.length, by simp, Nat.zero_le _, ρ1, τ, S1, s1, r.mono e1, Ext.refl, PostS.ext e1 p⟩, ?_⟩
    rintro i m σ2 H2 ⟨rfl, hi, ρ2, τ2, S2, s2, r2, e2, p2⟩
    have kk : keepOk it.keep S2 := by
      cases q2 : it.ds.drop i with
      | nil =>
        rw [q2] at p2; unfold forL at p2; split at p2
        · exact keepB_iff.mp (by assumption)
        · exact p2.elim
      | cons d ds =>
        rw [q2] at p2; unfold forL at p2; split at p2
        · exact keepB_iff.mp (by assumption)
        · exact p2.elim
    obtain ⟨go, stop, yld⟩ := ok ρ2 H2 S2 e2 s2 kk
    by_cases hlt : i < it.ds.length
    · refine .inr ⟨go i hlt, fun σ H => ∃ ρ τ S, SR X.K ρ S H ∧ ER X.K ρ H τ σ ∧ Ext ρ1 H1 ρ H ∧ PostS X.K W ρ H σ (forL it.keep g mb (it.ds.drop (i + 1)) τ S) D, fun σ' H' h' => ⟨it.ds.length - (i + 1), by omega, rfl, hlt, h'⟩, fun x H3 y => ?_⟩
      obtain ⟨d, hd, e3, s3, v3⟩ := yld i x H3 hlt y
      rw [drop_cons hd] at p2
      unfold forL at p2
      rw [if_pos (keepB_iff.mpr kk)] at p2
      cases q2 : bindT g d τ2 with
      | none => rw [q2] at p2; exact p2.elim
      | some τ3 =>
        rw [q2] at p2
        simp only at p2
        refine tgOf_of q2 v3 (r2.mono e3) fun σ3 r3 _ => ⟨ρ2, τ3, S2, s3, r3, ?_⟩
        have p3 := PostS.ext (σ1 := σ3) e3 p2
        cases q3 : mb τ3 S2 with
        | nx τ4 S4 => rw [q3] at p3; exact fun ρ4 σ4 H4 e4 s4 r4 => ⟨ρ4, τ4, S4, s4, r4, (e2.trans e3).trans e4, PostS.ext e4 p3⟩
        | ct τ4 S4 => rw [q3] at p3; exact fun ρ4 σ4 H4 e4 s4 r4 => ⟨ρ4, τ4, S4, s4, r4, (e2.trans e3).trans e4, PostS.ext e4 p3⟩
        | bk τ4 S4 => rw [q3] at p3; exact fun ρ4 σ4 H4 e4 s4 r4 => p3 ρ4 σ4 H4 e4 s4 r4
        | rt d4 S4 => rw [q3] at p3; exact p3
        | ex τ4 c fs S4 => rw [q3] at p3; exact p3
        | bad => rw [q3] at p3; exact p3
    · have e : i = it.ds.length := by omega
      subst e
      rw [List.drop_length] at p2
      unfold forL at p2
      rw [if_pos (keepB_iff.mpr kk)] at p2
      exact .inl ⟨stop, p2.here s2 r2⟩
end
end Z

/-! Z4: comprehensions; lists, tuples, ranges, zip, enumerate walked; while; stores. -/
namespace Z
open PySem L2 RZ

/-! ### comprehensions -/
def noEx {A : Type} : R A → R A
  | .ok a S => .ok a S
  | _ => .bad
@[simp] theorem noEx_ok {A : Type} (a : A) (S : Sto) : noEx (.ok a S) = .ok a S := rfl
@[simp] theorem noEx_ex {A : Type} (c fs) (S : Sto) : noEx (.ex c fs S : R A) = .bad := rfl
@[simp] theorem noEx_bad {A : Type} : noEx (.bad : R A) = .bad := rfl
def wipeT (τ : Tau) : List Nat → Tau
  | [] => τ
  | v :: vs => (wipeT τ vs).set v none
noncomputable def lcL (ks : List (Nat × C)) (g : Tgt) (vs : List Nat) (t : MT) (e : ME) : List D → Tau → Sto → R (List D)
  | [], τ, S => if keepB ks S = true then .ok [] S else .bad
  | d :: ds, τ, S => if keepB ks S = true then (match bindT g d (wipeT τ vs) with
    | none => .bad
    | some τ1 => (noEx (t τ1 S)).bind fun b S1 => if b = true then (noEx (e τ1 S1)).bind fun y S2 => (lcL ks g vs t e ds τ S2).bind fun ys S3 => .ok (y :: ys) S3 else lcL ks g vs t e ds τ S1) else .bad
noncomputable def mComp (it : MI) (g : Tgt) (vs : List Nat) (t : MT) (e : ME) : ME := fun τ S => (it τ S).bind fun i S1 => guardR (i.ds.length ≤ sizeLine) ((lcL i.keep g vs t e i.ds τ S1).bind fun ys S2 => .ok (.lst ys) S2)
abbrev W0 : WX := fun _ _ _ _ => False
section
variable {K : PySem.W.Frag} {σ : St} {H : Hp} {ρ : Pl} {τ : Tau} {S : Sto}
theorem ER.wipe (r : ER K ρ H τ σ) : ∀ vs : List Nat, ER K ρ H (wipeT τ vs) (L2.wipe σ vs)
  | [] => r
  | v :: vs => by
    have ih := ER.wipe r vs
    refine ⟨by simp [wipeT, L2.wipe, ih.1], fun j d h => ?_⟩
    unfold wipeT at h
    by_cases hj : j = v
    · subst hj
      by_cases hl : j < (wipeT τ vs).length
      · rw [List.getElem?_set_self hl] at h; cases h
      · rw [List.getElem?_eq_none (by simpa using hl)] at h; cases h
    · rw [List.getElem?_set_ne (Ne.symm hj)] at h
      obtain ⟨x, h1, h2⟩ := ih.2 j d h
      exact ⟨x, by unfold L2.wipe; rw [List.getElem?_set_ne (Ne.symm hj)]; exact h1, h2⟩
theorem wipe_at {σ : St} {j : Nat} : ∀ {vs : List Nat}, j ∈ vs → j < σ.length → (L2.wipe σ vs)[j]? = some none
  | v :: vs, h, hl => by
    unfold L2.wipe
    by_cases hj : j = v
    · subst hj; rw [List.getElem?_set_self (by rw [wipe_length]; exact hl)]
    · rw [List.getElem?_set_ne (Ne.symm hj)]
      exact wipe_at ((List.mem_cons.mp h).resolve_left hj) hl
theorem wipe_diff {σ σ' : St} {is vs : List Nat} (h : Diff is (L2.wipe σ vs) σ') (hi : ∀ i ∈ is, i ∈ vs) : L2.wipe σ' vs = L2.wipe σ vs := by
  have hl : σ'.length = σ.length := h.1.trans (wipe_length σ vs)
  apply List.ext_getElem?
  intro j
  by_cases hj : j ∈ vs
  · by_cases hs : j < σ.length
    · rw [wipe_at hj (by omega), wipe_at hj hs]
    · rw [List.getElem?_eq_none (by rw [wipe_length]; omega), List.getElem?_eq_none (by rw [wipe_length]; omega)]
  · rw [wipe_out hj, h.2 j (fun z => hj (hi j z))]
theorem noEx_post {A B : Type} {Wk W' : XK} {o : R A} {rel : Pl → Hp → B → A → Prop} {Q : B → Hp → Prop} (h : Post K Wk ρ H (noEx o) rel Q) : Post K W' ρ H o rel Q := by
  cases o with
  | ok a S => exact h
  | ex c fs S => exact h.elim
  | bad => exact h.elim
end

section
variable {X : Cx} {W : WX} {iter tg elt : Expr} {ifs : List Expr} {scope : Scope} {own : List (Str × Nat)} {mi : MI} {g : Tgt} {t : MT} {me : ME} {pos : Pos}
theorem Em_comp {K : PySem.W.Frag} {vs : List Nat} (hi : ∀ i ∈ g.ix, i ∈ vs) {σ : St} {H : Hp} {Q : VK} (h : Em K W (mComp mi g vs t me) σ H Q) : tLc (Im K W mi) (tgOf K g) (Tm K W0 t) (Em K W0 me) vs σ H Q := by
  obtain ⟨ρ, τ, S, s, r, p⟩ := h
  refine ⟨ρ, τ, S, s, r, ?_⟩
  unfold mComp at p
  cases q : mi τ S with
  | bad => rw [q] at p; exact p
  | ex c fs S' => rw [q] at p; exact p
  | ok it S1 =>
    rw [q] at p
    intro ρ1 H1 J e1 s1 k1 ok D hD
    obtain ⟨hz, p⟩ := guardR_post p
    have D1 : D ∉ ρ1.hid := fun z => s1.fresh hD (.inr z)
    have p := Post.ext e1 p
    -- the invariant: what is done (acc) stands at D, hidden; what is left gives the rest
    refine ⟨fun i m H2 => m = it.ds.length - i ∧ i ≤ it.ds.length ∧ ∃ ρ2 S2 acc xs, SR K ρ2 S2 H2 ∧ D ∈ ρ2.hid ∧ Ext ρ1 H1 ρ2 H2 ∧ H2 D = some (.lst xs) ∧ VRs K ρ2 H2 xs acc ∧ acc.length ≤ i ∧
      Post K (fun c d H' => W c d σ H') ρ1 H1 ((lcL it.keep g vs t me (it.ds.drop i) τ S2).bind fun ys S3 => .ok (.lst (acc ++ ys)) S3) (VR K) Q,
      ⟨it.ds.length, by simp, Nat.zero_le _, ρ1.hide D, S1, [], [], s1.hide hD, List.mem_cons_self, Ext.hide hD, upd_same, .nil, Nat.le_refl _, by simpa using p⟩, ?_⟩
    rintro i m H2 ⟨rfl, hi2, ρ2, S2, acc, xs, s2, d2, e2, hD2, ha2, hl2, p2⟩
    have kk : keepOk it.keep S2 := by
      cases q2 : it.ds.drop i with
      | nil =>
        rw [q2] at p2; unfold lcL at p2; split at p2
        · exact keepB_iff.mp (by assumption)
        · exact p2.elim
      | cons d ds =>
        rw [q2] at p2; unfold lcL at p2; split at p2
        · exact keepB_iff.mp (by assumption)
        · exact p2.elim
    obtain ⟨go, stop, yld⟩ := ok ρ2 H2 S2 e2 s2 kk
    by_cases hlt : i < it.ds.length
    · refine .inr ⟨go i hlt, fun H2 => i + 1 ≤ it.ds.length ∧ ∃ ρ2 S2 acc xs, SR K ρ2 S2 H2 ∧ D ∈ ρ2.hid ∧ Ext ρ1 H1 ρ2 H2 ∧ H2 D = some (.lst xs) ∧ VRs K ρ2 H2 xs acc ∧ acc.length ≤ i + 1 ∧
        Post K (fun c d H' => W c d σ H') ρ1 H1 ((lcL it.keep g vs t me (it.ds.drop (i + 1)) τ S2).bind fun ys S3 => .ok (.lst (acc ++ ys)) S3) (VR K) Q, fun H' h' => ⟨it.ds.length - (i + 1), by omega, rfl, h'⟩, fun x H3 y => ?_⟩
      obtain ⟨d, hd, e3, s3, v3⟩ := yld i x H3 hlt y
      rw [drop_cons hd] at p2
      unfold lcL at p2
      rw [if_pos (keepB_iff.mpr kk)] at p2
      cases q2 : bindT g d (wipeT τ vs) with
      | none => rw [q2] at p2; exact p2.elim
      | some τ3 =>
        rw [q2] at p2
        simp only at p2
        have r3 : ER K ρ2 H3 (wipeT τ vs) (L2.wipe σ vs) := ((r.mono (e1.trans e2)).mono e3).wipe vs
        refine tgOf_of q2 v3 r3 fun σ3 r4 df => ⟨wipe_diff df hi, ρ2, τ3, S2, s3, r4, ?_⟩
        cases q3 : t τ3 S2 with
        | ex c fs S' => rw [q3] at p2; exact p2.elim
        | bad => rw [q3] at p2; exact p2.elim
        | ok b S4 =>
          rw [q3] at p2
          intro ρ4 H4 b' e4 s4 hb
          have hb' : b' = b := hb
          subst hb'
          simp only [noEx_ok, R.bind_ok] at p2
          have hD4 : H4 D = some (.lst xs) := e4.keep _ _ (e3.keep _ _ hD2 (by (intro ps z; cases z)) fun z => (s2.hd D d2).1 z) (by (intro ps z; cases z)) fun z => (s3.hd D d2).1 z
          have d4 : D ∈ ρ4.hid := e4.hid _ (e3.hid _ d2)
          have ha4 := (ha2.mono e3).mono e4
          have e14 : Ext ρ1 H1 ρ4 H4 := (e2.trans e3).trans e4
          cases b' with
          | false =>
            rw [if_neg (by decide)] at p2
            refine iteF ⟨hlt, ρ4, S4, acc, xs, s4, d4, e14, hD4, ha4, Nat.le_succ_of_le hl2, p2⟩
          | true =>
            rw [if_pos rfl] at p2
            refine iteT ⟨ρ4, τ3, S4, s4, r4.mono e4, ?_⟩
            cases q5 : me τ3 S4 with
            | ex c fs S' => rw [q5] at p2; exact p2.elim
            | bad => rw [q5] at p2; exact p2.elim
            | ok z S5 =>
              rw [q5] at p2
              intro ρ5 H5 yv e5 s5 v5
              simp only [noEx_ok, R.bind_ok] at p2
              have hD5 : H5 D = some (.lst xs) := e5.keep _ _ hD4 (by (intro ps z; cases z)) fun z => (s4.hd D d4).1 z
              have d5 : D ∈ ρ5.hid := e5.hid _ d4
              have hlen : xs.length ≤ i := by rw [ha2.length]; exact hl2
              refine ⟨xs, hD5, by omega, hlt, ρ5, S5, acc ++ [z], xs ++ [yv], s5.rehide d5, d5, (e14.trans e5).rehide hD, upd_same, (((ha4.mono e5).append (.cons v5 .nil))).rehide (.inr d5), by simpa using hl2, ?_⟩
              have : ((lcL it.keep g vs t me (it.ds.drop (i + 1)) τ S5).bind fun ys S3 => R.ok (Z.D.lst (acc ++ [z] ++ ys)) S3) = (((lcL it.keep g vs t me (it.ds.drop (i + 1)) τ S5).bind fun ys S3 => .ok (z :: ys) S3).bind fun ys S3 => .ok (Z.D.lst (acc ++ ys)) S3) := by
                cases lcL it.keep g vs t me (it.ds.drop (i + 1)) τ S5 with
                | ok ys S3 => simp
                | ex c fs S3 => rfl
                | bad => rfl
              rw [this]; exact p2
    · have e : i = it.ds.length := by omega
      subst e
      rw [List.drop_length] at p2
      unfold lcL at p2
      rw [if_pos (keepB_iff.mpr kk)] at p2
      simp only [R.bind_ok, List.append_nil] at p2
      refine .inl ⟨stop, p2 (ρ2.bare D) H2 _ (e2.bare D1) s2.unhide (.lst hD2 (fun z => ?_) ha2.unhide)⟩
      rcases z with z | z
      · exact (s2.hd D d2).1 z
      · exact of_decide_eq_true (List.mem_filter.mp z).2 rfl
theorem z_comp (hc : X.calm = true) (hN : X.N.Nodup) (hi : PI X tg iter (Im X.K W mi)) (ok : BlkOk X.N X.env.scope scope own)
    (hg : ∀ (s : Shared) (H : Hp) (C : Addr) (cl : List (Str × Addr)) (fp : List Addr), PG (X.blk s H scope (compEnvC scope cl C X.env) fp) tg (tgOf X.K g)) (ht : ∀ (s : Shared) (H : Hp) (C : Addr) (cl : List (Str × Addr)) (fp : List Addr), PTs (X.blk s H scope (compEnvC scope cl C X.env) fp) ifs (Tm X.K W0 t))
    (he : ∀ (s : Shared) (H : Hp) (C : Addr) (cl : List (Str × Addr)) (fp : List Addr), PE (X.blk s H scope (compEnvC scope cl C X.env) fp) elt (Em X.K W0 me)) (hin : ∀ i ∈ g.ix, i ∈ own.map (·.2)) (hs : ∀ x, foldedSetIterable iter X.env x = pure x := by intro _; rfl) :
    PE X (.ListComp elt [⟨tg, iter, ifs, 0⟩] scope pos) (Em X.K W (mComp mi g (own.map (·.2)) t me)) := PE_imp (pe_lc hc hN hi ok hg ht he hs) fun σ H Q h => Em_comp hin h
theorem s_setComp {i : Nat} {y : Str} {py spos : Pos} (hc : X.calm = true) (hN : X.N.Nodup) (hy : X.N[i]? = some y) (hyl : X.env.scope.names.lookup y = some .local)
    (hsw : swapsWith (.ListComp elt [⟨tg, iter, ifs, 0⟩] scope pos) (some (.Name y py)) spos.line X.env = pure true) (hi : PI X tg iter (Im X.K W mi)) (ok : BlkOk X.N X.env.scope scope own)
    (hg : ∀ (s : Shared) (H : Hp) (C : Addr) (cl : List (Str × Addr)) (fp : List Addr), PG (X.blk s H scope (compEnvC scope cl C X.env) fp) tg (tgOf X.K g)) (ht : ∀ (s : Shared) (H : Hp) (C : Addr) (cl : List (Str × Addr)) (fp : List Addr), PTs (X.blk s H scope (compEnvC scope cl C X.env) fp) ifs (Tm X.K W0 t))
    (he : ∀ (s : Shared) (H : Hp) (C : Addr) (cl : List (Str × Addr)) (fp : List Addr), PE (X.blk s H scope (compEnvC scope cl C X.env) fp) elt (Em X.K W0 me)) (hin : ∀ i ∈ g.ix, i ∈ own.map (·.2)) (hs : ∀ x, foldedSetIterable iter X.env x = pure x := by intro _; rfl) :
    PS X (.Assign [.Name y py] (.ListComp elt [⟨tg, iter, ifs, 0⟩] scope pos) spos) (Sm X.K W (sAsg i (mComp mi g (own.map (·.2)) t me))) := PS_imp (ps_setLc hc hN hy hyl hsw hi ok hg ht he hs) fun D σ H ⟨ρ, τ, S, s, r, p⟩ =>
  Em_comp hin (Em_S (k := fun _ _ => .bad) s r p fun ρ1 H1 S1 v d s1 r1 e1 v1 p1 => p1.here s1 (r1.set i v1))
/-- no test -/
def tYesM : MT := fun _ S => .ok true S
theorem ts_nil : PTs X [] (Tm X.K W tYesM) := ⟨fun pins s σ H Q I ⟨ρ, τ, S, sr, r, p⟩ => pts_nil.run pins s σ H Q I (p.here sr rfl)⟩
theorem ts_one {c : Expr} (h : PT X c (Tm X.K W t)) : PTs X [c] (Tm X.K W t) := pts_one h
end

/-! ### lists, tuples, texts walked -/
def keepOf : D → Sto → List (Nat × C)
  | .loc l, S => match S[l]? with | some c => [(l, c)] | none => []
  | _, _ => []
def signs (x : Str) : List D := x.cps.toList.map fun c => .str ⟨#[c]⟩
def itemsOf : D → Sto → Option Items
  | .tup ds, _ => some ⟨ds, []⟩
  | .lst ds, _ => some ⟨ds, []⟩
  | .scr ds, _ => some ⟨ds, []⟩
  | .str x, _ => some ⟨signs x, []⟩
  | .loc l, S => match S[l]? with | some (.lst ds) => some ⟨ds, [(l, .lst ds)]⟩ | _ => none
  | _, _ => none
def iSeq (m : ME) : MI := fun τ S => (m τ S).bind fun d S1 => ofO (itemsOf d S1) S1
section
variable {K : PySem.W.Frag} {ρ0 : Pl} {H0 : Hp}
theorem iter_list {a : Addr} {d : D} {it : Items} (r : VR K ρ0 H0 (.ref a) d) (hd : ∀ S, keepOk it.keep S → listR d S = some it.ds) : IterOK K ρ0 H0 (Itl K a) it := fun ρ H S e s k => by
  obtain ⟨b, xs, e1, h1, h2⟩ := listR_of s (r.mono e) (hd S k)
  cases e1
  have hl := h2.length
  refine ⟨fun i hi => ⟨xs, xs[i]'(by omega), h1, by simp⟩, ⟨xs, h1, by omega⟩, fun i x H' hi y => ?_⟩
  obtain ⟨rfl, y2⟩ := y
  obtain ⟨d2, g1, g2⟩ := h2.getV (y2 xs h1)
  exact ⟨d2, g1, Ext.refl, s, g2⟩
theorem iter_tup {a : Addr} {ds : List D} (r : VR K ρ0 H0 (.ref a) (.tup ds)) : IterOK K ρ0 H0 (Itt K a) ⟨ds, []⟩ := fun ρ H S e s k => by
  obtain ⟨b, xs, e1, h1, h2⟩ := tup_of (r.mono e)
  cases e1
  have hl := h2.length
  refine ⟨fun i hi => ⟨xs, xs[i]'(by have : i < ds.length := hi; omega), h1, by simp⟩, ⟨xs, h1, by show xs.length ≤ ds.length; omega⟩, fun i x H' hi y => ?_⟩
  obtain ⟨rfl, y2⟩ := y
  obtain ⟨d2, g1, g2⟩ := h2.getV (y2 xs h1)
  exact ⟨d2, g1, Ext.refl, s, g2⟩
theorem iter_str {x : Str} : IterOK K ρ0 H0 (Its x) ⟨signs x, []⟩ := fun ρ H S e s k => by
  have hn : (signs x).length = x.cps.size := by simp [signs]
  refine ⟨fun i hi => walk_str.goes i H (by rw [← hn]; exact hi) trivial, ?_, fun i v H' hi y => ?_⟩
  · show (Its x).stop (signs x).length H
    rw [hn]; exact walk_str.stops H trivial
  · obtain ⟨rfl, c, hc, rfl⟩ := walk_str.yields i H v H' (by rw [← hn]; exact hi) trivial y
    refine ⟨.str ⟨#[c]⟩, ?_, Ext.refl, s, .str _⟩
    show (signs x)[i]? = _
    unfold signs
    rw [List.getElem?_map, Array.getElem?_toList, hc]; rfl
theorem iter_range {lo : Int} {n : Nat} : IterOK K ρ0 H0 (Itr lo n) ⟨(List.range n).map fun (i : Nat) => .int (lo + (i : Int)), []⟩ := fun ρ H S e s k => by
  refine ⟨fun i hi => by show i < n; simpa using hi, by show n ≤ _; simp, fun i x H' hi y => ?_⟩
  obtain ⟨rfl, rfl⟩ := y
  have hi' : i < n := by simpa using hi
  exact ⟨.int (lo + i), by simp [hi'], Ext.refl, s, .int _⟩
/-- new pairs of what two rows give -/
theorem pair_turn {ρ : Pl} {H H' : Hp} {S : Sto} {v : V} {xs ys : List V} {ds es : List D} {i : Nat} (s : SR K ρ S H) (hx : VRs K ρ H xs ds) (hy : VRs K ρ H ys es)
    (y : ∃ T x y, v = .ref T ∧ H T = none ∧ H' = upd H T (.tup [x, y]) ∧ xs[i]? = some x ∧ ys[i]? = some y) : ∃ d, (List.zipWith (fun a b => D.tup [a, b]) ds es)[i]? = some d ∧ Ext ρ H ρ H' ∧ SR K ρ S H' ∧ VR K ρ H' v d := by
  obtain ⟨T, x, y, rfl, hT, rfl, h1, h2⟩ := y
  obtain ⟨dx, g1, g2⟩ := hx.getV h1
  obtain ⟨dy, k1, k2⟩ := hy.getV h2
  refine ⟨.tup [dx, dy], ?_, Ext.fresh hT, s.laid hT, VR.newTup s hT (.cons g2 (.cons k2 .nil))⟩
  rw [List.getElem?_zipWith, g1, k1]
end
section
variable {X : Cx} {W : WX} {tg e : Expr} {m : ME} {pos : Pos}
theorem Im_of {K : PySem.W.Frag} {σ : St} {H : Hp} {Rr : It → Hp → Prop} (h : Im K W (iSeq m) σ H Rr) : iList K (Em K W m) σ H Rr ∨ iTup K (Em K W m) σ H Rr ∨ iStr (Em K W m) σ H Rr := by
  obtain ⟨ρ, τ, S, s, r, p⟩ := h
  unfold iSeq at p
  cases q : m τ S with
  | bad => rw [q] at p; exact p.elim
  | ex c fs S' =>
    rw [q] at p
    exact .inl ⟨ρ, τ, S, s, r, by rw [q]; exact p⟩
  | ok d S1 =>
    rw [q] at p
    simp only [R.bind_ok] at p
    cases q2 : itemsOf d S1 with
    | none => rw [q2] at p; exact p.elim
    | some it =>
      rw [q2] at p
      simp only [ofO_some] at p
      cases d with
      | tup ds =>
        cases q2
        refine .inr (.inl ⟨ρ, τ, S, s, r, ?_⟩)
        rw [q]
        intro ρ1 H1 v e1 s1 v1
        obtain ⟨a, xs, rfl, h1, h2⟩ := tup_of v1
        exact ⟨a, rfl, ⟨xs, h1⟩, p ρ1 H1 _ e1 s1 (fun _ h => nomatch h) (iter_tup v1)⟩
      | str x =>
        cases q2
        refine .inr (.inr ⟨ρ, τ, S, s, r, ?_⟩)
        rw [q]
        intro ρ1 H1 v e1 s1 v1
        cases v1
        exact ⟨x, rfl, p ρ1 H1 _ e1 s1 (fun _ h => nomatch h) iter_str⟩
      | lst ds =>
        cases q2
        refine .inl ⟨ρ, τ, S, s, r, ?_⟩
        rw [q]
        intro ρ1 H1 v e1 s1 v1
        obtain ⟨a, xs, rfl, h1, h2⟩ := listR_of s1 v1 rfl
        exact ⟨a, rfl, ⟨xs, h1⟩, p ρ1 H1 _ e1 s1 (fun _ h => nomatch h) (iter_list v1 fun _ _ => rfl)⟩
      | scr ds =>
        cases q2
        refine .inl ⟨ρ, τ, S, s, r, ?_⟩
        rw [q]
        intro ρ1 H1 v e1 s1 v1
        obtain ⟨a, xs, rfl, h1, h2⟩ := listR_of s1 v1 rfl
        exact ⟨a, rfl, ⟨xs, h1⟩, p ρ1 H1 _ e1 s1 (fun _ h => nomatch h) (iter_list v1 fun _ _ => rfl)⟩
      | loc l =>
        simp only [itemsOf] at q2
        split at q2
        · rename_i ds hl
          cases q2
          refine .inl ⟨ρ, τ, S, s, r, ?_⟩
          rw [q]
          intro ρ1 H1 v e1 s1 v1
          obtain ⟨a, xs, rfl, h1, h2⟩ := listR_of (ds := ds) s1 v1 (by simp [listR, hl])
          refine ⟨a, rfl, ⟨xs, h1⟩, p ρ1 H1 _ e1 s1 (fun q hq => ?_) (iter_list v1 fun S k => ?_)⟩
          · have : q = (l, .lst ds) := by simpa using hq
            subst this; exact hl
          · have := k (l, .lst ds) (by simp)
            simp [listR, this]
        · cases q2
      | _ => cases q2
theorem i_seq (he : PE X e (Em X.K W m)) : PI X tg e (Im X.K W (iSeq m)) := by
  constructor
  intro pins st σ H Rr I h
  rcases Im_of h with h | h | h
  · exact (pi_list he).run pins st σ H Rr I h
  · exact (pi_tup he).run pins st σ H Rr I h
  · exact (pi_str he).run pins st σ H Rr I h
/-! ### ranges -/
def range1 : List D → Sto → Option Items
  | [.int j], _ => if -(2 ^ 62) ≤ j ∧ j < 2 ^ 62 then some ⟨(List.range j.toNat).map fun (i : Nat) => .int (0 + (i : Int)), []⟩ else none
  | _, _ => none
def iArgs (f : List D → Sto → Option Items) (ms : MA) : MI := fun τ S => (ms τ S).bind fun ds S1 => ofO (f ds S1) S1
theorem Im_args {K : PySem.W.Frag} {f : List D → Sto → Option Items} {ms : MA} {σ : St} {H : Hp} {Rr : It → Hp → Prop} {Q1 : List V → Hp → Prop} (h : Im K W (iArgs f ms) σ H Rr)
    (k : ∀ ρ1 H1 S1 vs ds it, SR K ρ1 S1 H1 → VRs K ρ1 H1 vs ds → f ds S1 = some it → (∀ J, keepOk it.keep S1 → IterOK K ρ1 H1 J it → Rr J H1) → Q1 vs H1) : Am K W ms σ H Q1 := by
  obtain ⟨ρ, τ, S, s, r, p⟩ := h
  refine ⟨ρ, τ, S, s, r, ?_⟩
  unfold iArgs at p
  cases q : ms τ S with
  | bad => rw [q] at p; exact p.elim
  | ex c fs S' => rw [q] at p; exact p
  | ok ds S1 =>
    rw [q] at p
    simp only [R.bind_ok] at p
    cases q2 : f ds S1 with
    | none => rw [q2] at p; exact p.elim
    | some it =>
      rw [q2] at p
      exact fun ρ1 H1 vs e1 s1 v1 => k ρ1 H1 S1 vs ds it s1 v1 q2 fun J kk ok => p ρ1 H1 J e1 s1 kk ok
variable {ms : MA} {a b : Expr} {p : Pos}
theorem i_range1 (hm : X.mg "range" = none) (ha : PA X [a] (Am X.K W ms)) (hg : Gl X "range" := by rfl) (hs : starEach [a] X.env = [(false, eval a X.env)] := by rfl) : PI X tg (.Call (.Name "range" p) [a] [] pos) (Im X.K W (iArgs range1 ms)) :=
  PI_imp (pi_range1 hg hm ha hs) fun σ H Q h => Im_args h fun ρ1 H1 S1 vs ds it s1 v1 q k => by
    unfold range1 at q
    split at q
    · cases v1 with
      | cons v1 v2 =>
        cases v2; cases v1
        split at q
        · rename_i hb
          cases q
          exact ⟨_, rfl, hb.1, hb.2, k _ (fun _ h => nomatch h) iter_range⟩
        · cases q
    · cases q
/-! ### zip, enumerate -/
theorem listR_keep {d : D} {S S' : Sto} {ds : List D} (h : listR d S = some ds) (k : keepOk (keepOf d S) S') : listR d S' = some ds := by
  cases d with
  | loc l =>
    simp only [listR] at h
    split at h
    · rename_i es hl
      cases h
      have := k (l, .lst ds) (by simp [keepOf, hl])
      simp [listR, this]
    · cases h
  | _ => exact h
theorem keepOf_ok {d : D} {S : Sto} : keepOk (keepOf d S) S := fun p hp => by
  cases d with
  | loc l =>
    simp only [keepOf] at hp
    split at hp
    · rename_i c hl
      have : p = (l, c) := by simpa using hp
      subst this; exact hl
    · exact nomatch hp
  | _ => exact nomatch hp
theorem keepOk_app {a b : List (Nat × C)} {S : Sto} : keepOk (a ++ b) S ↔ keepOk a S ∧ keepOk b S := by
  constructor
  · intro h; exact ⟨fun p hp => h p (List.mem_append_left _ hp), fun p hp => h p (List.mem_append_right _ hp)⟩
  · rintro ⟨h1, h2⟩ p hp
    rcases List.mem_append.mp hp with z | z
    · exact h1 p z
    · exact h2 p z
theorem iter_zipL {K : PySem.W.Frag} {ρ0 : Pl} {H0 : Hp} {a b : Addr} {dx dy : D} {ds es : List D} {S0 : Sto} (ra : VR K ρ0 H0 (.ref a) dx) (rb : VR K ρ0 H0 (.ref b) dy) (hx : listR dx S0 = some ds) (hy : listR dy S0 = some es) :
    IterOK K ρ0 H0 (Itz K a b) ⟨List.zipWith (fun a b => .tup [a, b]) ds es, keepOf dx S0 ++ keepOf dy S0⟩ := fun ρ H S e s k => by
  obtain ⟨ka, kb⟩ := keepOk_app.mp k
  obtain ⟨_, xs, e1, h1, h2⟩ := listR_of s (ra.mono e) (listR_keep hx ka)
  cases e1
  obtain ⟨_, ys, e1, k1, k2⟩ := listR_of s (rb.mono e) (listR_keep hy kb)
  cases e1
  have hl := h2.length
  have hl2 := k2.length
  refine ⟨fun i hi => ?_, ⟨xs, ys, h1, k1, by show xs.length ≤ (List.zipWith _ _ _).length ∨ _; rw [List.length_zipWith]; omega⟩, fun i x H' hi y => ?_⟩
  · have hi' : i < (List.zipWith (fun a b => D.tup [a, b]) ds es).length := hi
    rw [List.length_zipWith] at hi'
    exact ⟨xs, ys, xs[i]'(by omega), ys[i]'(by omega), h1, k1, by simp, by simp⟩
  · obtain ⟨T, x, y, e1, e2, e3, e4, e5⟩ := y
    exact pair_turn s h2 k2 ⟨T, x, y, e1, e2, e3, e4 xs h1, e5 ys k1⟩
end
end Z

/-! Z5: what a thing reads as (PyData); operators and built-ins over data. -/
namespace Z
open PySem L2

def keyPy : Key → PyData
  | .inl i => .int i
  | .inr x => .str x
mutual
def toPyD : D → Option PyData
  | .non => some .none
  | .bl b => some (.bool b)
  | .int i => some (.int i)
  | .str x => some (.str x)
  | .tup ds => (toPyDs ds).map .tuple
  | .lst ds => (toPyDs ds).map .list
  | .scr ds => (toPyDs ds).map .list
  | .dct ks ds => (toPyDs ds).map fun vs => .dict (List.zip (ks.map keyPy) vs)
  | .loc _ => none
  | .ktup _ => none
  | .ob _ => none
  | .fn _ => none
def toPyDs : List D → Option (List PyData)
  | [] => some []
  | d :: ds => match toPyD d, toPyDs ds with
    | some p, some ps => some (p :: ps)
    | _, _ => none
end
def toPy (d : D) (S : Sto) : Option PyData := match d with
  | .loc l => match S[l]? with
    | some (.lst ds) => (toPyDs ds).map .list
    | some (.dK false kvs) => (toPyDs (kvs.map (·.2))).map fun vs => .dict (List.zip (kvs.map fun p => keyPy p.1) vs)
    | _ => none
  | d => toPyD d
theorem toPyDs_len : ∀ {ds : List D} {ps : List PyData}, toPyDs ds = some ps → ps.length = ds.length
  | [], ps, h => by simp [toPyDs] at h; subst h; rfl
  | d :: ds, ps, h => by
    simp only [toPyDs] at h
    split at h
    · rename_i p qs h1 h2
      cases h
      simp [toPyDs_len h2]
    · cases h
section
variable {X : Cx} {pins : List (Addr × Obj)} {σ : St} {st : Shared} {ρ : Pl} {H : Hp} {S : Sto}
theorem reads_dict (I : Inv X pins σ H st) {a : Addr} {ws : List (Key × V)} (h : H a = some (.dK ws)) {ps : List PyData} (hl : ps.length = ws.length) {B : Prop} (hv : ∀ us, Vals (ws.map (·.2)) us → ∃ as, ReadsAll st.heap us ps as ∧ (B → sysModules ∉ as)) :
    ∃ as, Reads st.heap (.ref a) (.dict (List.zip (ws.map fun p => keyPy p.1) ps)) as ∧ (B → sysModules ∉ as) := by
  obtain ⟨_, hsys, vs, hkv, o, es, ep, ho, hex, hd, _, hp, _⟩ := I.hok a _ h
  have main : ∀ (es : List DictEntry) (ws : List (Key × V)) (vs : List (Key × Value)), KV ws vs → PySem.Pairs (mixKind X.prog X.w) es vs → ReadsAll st.heap (es.map (·.key)) (ws.map fun p => keyPy p.1) [] ∧ Vals (ws.map (·.2)) (es.map (·.val)) := by
    intro es
    induction es with
    | nil =>
      intro ws vs hk hp
      cases hp; cases hk
      exact ⟨.nil, .nil⟩
    | cons e es ih =>
      intro ws vs hk hp
      cases hp with
      | cons h1 h2 h3 =>
        cases hk with
        | cons k1 k2 =>
          obtain ⟨r, q⟩ := ih _ _ k2 h3
          obtain ⟨e1, e2⟩ := k1
          refine ⟨?_, .cons (by show RelV _ e.val; rw [h2]; exact e2) q⟩
          rename_i kv vs' pw ws'
          obtain ⟨k, v⟩ := pw
          simp only at e1
          have hk1 : keyIs kv.1 e.key = true := h1
          rw [← e1] at hk1
          rcases keyIs_shape hk1 with ⟨i, t, e3, e4⟩ | ⟨x, t, e3, e4⟩
          · refine ReadsAll.cons (as := []) (bs := []) ?_ r
            simp only [e4]; rw [show keyPy k = .int i from by rw [e3]; rfl]; exact .int i t
          · refine ReadsAll.cons (as := []) (bs := []) ?_ r
            simp only [e4]; rw [show keyPy k = .str x from by rw [e3]; rfl]; exact .str x t
  obtain ⟨r1, r2⟩ := main es.toList ws vs hkv hp
  obtain ⟨bs, r3, hb⟩ := hv _ r2
  refine ⟨_, Reads.dict (as := []) (bs := bs) ho hex.1 hd ?_ ?_, fun b z => ?_⟩
  · rw [show (List.zip (ws.map fun p => keyPy p.1) ps).map (·.1) = ws.map fun p => keyPy p.1 from by
      rw [List.map_fst_zip]; simp [hl]]
    exact r1
  · rw [show (List.zip (ws.map fun p => keyPy p.1) ps).map (·.2) = ps from by
      rw [List.map_snd_zip]; simp [hl]]
    exact r3
  · rcases List.mem_cons.mp (show sysModules ∈ a :: bs from by simpa using z) with z | z
    · exact absurd (beq_iff_eq.mpr z.symm) (by rw [hsys]; decide)
    · exact hb b z
mutual
/-- no list within -/
def noList : D → Bool
  | .tup ds => noLists ds
  | .dct _ ds => noLists ds
  | .lst _ => false
  | .scr _ => false
  | .loc _ => false
  | _ => true
def noLists : List D → Bool
  | [] => true
  | d :: ds => noList d && noLists ds
end
mutual
theorem VR.reads (I : Inv X pins σ H st) : ∀ (d : D) (v : V) (u : Value) (p : PyData), VR X.K ρ H v d → RelV v u → toPyD d = some p → ∃ as, Reads st.heap u p as ∧ (noList d = true → sysModules ∉ as)
  | .non, _, _, _, r, q, h => by cases r; cases h; cases q; exact ⟨_, .none, fun _ z => nomatch z⟩
  | .bl b, _, _, _, r, q, h => by cases r; cases h; cases q; exact ⟨_, .bool b, fun _ z => nomatch z⟩
  | .int i, _, _, _, r, q, h => by cases r; cases h; obtain ⟨t, rfl⟩ := q; exact ⟨_, .int i t, fun _ z => nomatch z⟩
  | .str x, _, _, _, r, q, h => by cases r; cases h; obtain ⟨t, rfl⟩ := q; exact ⟨_, .str x t, fun _ z => nomatch z⟩
  | .tup ds, v, u, p, r, q, h => by
    simp only [toPyD, Option.map_eq_some_iff] at h
    obtain ⟨ps, h1, rfl⟩ := h
    obtain ⟨a, xs, rfl, ht, hs⟩ := tup_of r
    cases q
    obtain ⟨its, rv, ⟨o, ho, hc, n, hd⟩, _⟩ := I.tuple ht
    obtain ⟨as, hr, hb⟩ := VRs.reads I ds _ its ps hs rv h1
    exact ⟨_, .tuple ho hc hd hr, hb⟩
  | .lst ds, v, u, p, r, q, h => by
    simp only [toPyD, Option.map_eq_some_iff] at h
    obtain ⟨ps, h1, rfl⟩ := h
    cases r with
    | lst h2 h3 hs =>
      cases q
      obtain ⟨its, rv, ⟨o, n, ho, hc, _, hd⟩, _⟩ := I.list (SqL.of h2)
      obtain ⟨as, hr, hb⟩ := VRs.reads I ds _ its ps hs rv h1
      exact ⟨_, .list ho hc hd hr, fun z => nomatch z⟩
  | .scr ds, v, u, p, r, q, h => by
    simp only [toPyD, Option.map_eq_some_iff] at h
    obtain ⟨ps, h1, rfl⟩ := h
    cases r with
    | @scr a xs _ h2 hs =>
      cases q
      have hq : SqL X.K H a xs := by
        rcases h2 with ⟨o, h2, _⟩ | h2
        · exact .inl (.inr ⟨o, h2⟩)
        · exact h2 H
      obtain ⟨its, rv, ⟨o, n, ho, hc, _, hd⟩, _⟩ := I.list hq
      obtain ⟨as, hr, hb⟩ := VRs.reads I ds _ its ps hs rv h1
      exact ⟨_, .list ho hc hd hr, fun z => nomatch z⟩
  | .dct ks ds, v, u, p, r, q, h => by
    simp only [toPyD, Option.map_eq_some_iff] at h
    obtain ⟨ps, h1, rfl⟩ := h
    cases r with
    | dct h2 h3 hk hs =>
      cases q
      have := reads_dict I h2 (ps := ps) (B := noLists ds = true) (by rw [toPyDs_len h1, ← hs.length]; simp) fun us hu => VRs.reads I ds _ us ps hs hu h1
      rw [← hk]
      rw [List.map_map]
      exact this
  | .loc l, _, _, _, _, _, h => by simp [toPyD] at h
  | .ktup l, _, _, _, _, _, h => by simp [toPyD] at h
  | .ob v, _, _, _, _, _, h => by simp [toPyD] at h
  | .fn v, _, _, _, _, _, h => by simp [toPyD] at h
theorem VRs.reads (I : Inv X pins σ H st) : ∀ (ds : List D) (vs : List V) (us : List Value) (ps : List PyData), VRs X.K ρ H vs ds → Vals vs us → toPyDs ds = some ps → ∃ as, ReadsAll st.heap us ps as ∧ (noLists ds = true → sysModules ∉ as)
  | [], _, _, _, r, q, h => by cases r; cases q; simp [toPyDs] at h; subst h; exact ⟨_, .nil, fun _ z => nomatch z⟩
  | d :: ds, _, _, _, r, q, h => by
    simp only [toPyDs] at h
    split at h
    · rename_i p ps h1 h2
      cases h
      cases r with
      | cons r1 r2 =>
        cases q with
        | cons q1 q2 =>
          obtain ⟨as, k1, b1⟩ := VR.reads I d _ _ _ r1 q1 h1
          obtain ⟨bs, k2, b2⟩ := VRs.reads I ds _ _ _ r2 q2 h2
          refine ⟨_, .cons k1 k2, fun z => ?_⟩
          have z' : noList d = true ∧ noLists ds = true := by simpa [noLists] using z
          rw [List.mem_append]
          rintro (y | y)
          · exact b1 z'.1 y
          · exact b2 z'.2 y
    · cases h
end
/-- what is to be read as p, whatever state bears the heap -/
def RdP (X : Cx) (H : Hp) (v : V) (p : PyData) : Prop := ∀ (pins : List (Addr × Obj)) (σ : St) (st : Shared) (u : Value), Inv X pins σ H st → RelV v u → ∃ as, Reads st.heap u p as
theorem rdP_of (s : SR X.K ρ S H) {v : V} {d : D} {p : PyData} (r : VR X.K ρ H v d) (h : toPy d S = some p) : RdP X H v p := fun pins σ st u I q => by
  cases d with
  | loc l =>
    cases r with
    | loc hl =>
      cases q
      simp only [toPy] at h
      split at h
      · rename_i ds e
        simp only [Option.map_eq_some_iff] at h
        obtain ⟨ps, h1, rfl⟩ := h
        obtain ⟨xs, h2, h3⟩ := s.at hl e
        obtain ⟨its, rv, ⟨o, n, ho, hc, _, hd⟩, _⟩ := I.list (SqL.of h2)
        obtain ⟨as, hr, _⟩ := VRs.reads I ds _ its ps h3 rv h1
        exact ⟨_, .list ho hc hd hr⟩
      · rename_i kvs e
        simp only [Option.map_eq_some_iff] at h
        obtain ⟨ps, h1, rfl⟩ := h
        obtain ⟨ws, h2, h3⟩ := s.at hl e
        have hk : ws.map (·.1) = kvs.map (·.1) ∧ VRs X.K ρ H (ws.map (·.2)) (kvs.map (·.2)) := by
          clear h1 h2 e
          induction h3 with
          | nil => exact ⟨rfl, .nil⟩
          | cons q _ ih => exact ⟨by simp [ih.1], .cons q ih.2⟩
        obtain ⟨as, this, _⟩ := reads_dict I h2 (ps := ps) (B := False) (by rw [toPyDs_len h1, ← hk.2.length]; simp) fun us hu => let ⟨as, r, _⟩ := VRs.reads I _ _ us ps hk.2 hu h1; ⟨as, r, fun z => z.elim⟩
        have e2 : (ws.map fun p => keyPy p.1) = kvs.map fun p => keyPy p.1 := by
          have := congrArg (List.map keyPy) hk.1
          simpa [List.map_map, Function.comp_def] using this
        rw [e2] at this
        exact ⟨_, this⟩
      · cases h
  | _ => exact let ⟨as, r, _⟩ := VR.reads I _ _ _ _ r q h; ⟨as, r⟩
end

/-- .. without sys.modules among its objects -/
def RdS (X : Cx) (H : Hp) (v : V) (p : PyData) : Prop := ∀ (pins : List (Addr × Obj)) (σ : St) (st : Shared) (u : Value), Inv X pins σ H st → RelV v u → ∃ as, Reads st.heap u p as ∧ sysModules ∉ as
theorem rdS_of {X : Cx} {ρ : Pl} {H : Hp} {v : V} {d : D} {p : PyData} (r : VR X.K ρ H v d) (h : toPyD d = some p) (hn : noList d = true) : RdS X H v p := fun pins σ st u I q =>
  let ⟨as, h1, h2⟩ := VR.reads I _ _ _ _ r q h
  ⟨as, h1, h2 hn⟩

/-! ### operators over data -/
def rDat (X : Cx) (C : PyData → PyData → Prop) (f : PyData → PyData → Bool) : R2 := fun x y H Q => ∃ p q, RdP X H x p ∧ RdP X H y q ∧ C p q ∧ Q (.bl (f p q)) H
def PlainC (p q : PyData) : Prop := p.plain = true ∧ q.plain = true ∧ p.depth ≤ 64
def AlikeC (p q : PyData) : Prop := PySem.W.alike p q = true ∧ p ≠ .none ∧ p.depth ≤ 64
def InC (p q : PyData) : Prop := p.plain = true ∧ p.depth ≤ 64 ∧ ((∃ xs, q = .list xs ∧ PyData.plainAll xs = true) ∨ ∃ xs, q = .tuple xs ∧ PyData.plainAll xs = true)
def inPy (p q : PyData) : Bool := match q with
  | .list xs => xs.any fun y => PyData.eqv y p
  | .tuple xs => xs.any fun y => PyData.eqv y p
  | _ => false
section
variable {X : Cx} (hu : X.A.units + 100 < cLine)
include hu
theorem op_eqP : OpR X (compareOp .Eq) (rDat X PlainC PyData.eqv) := fun pins st σ H x y v u Q I rx ry ⟨p, q, hp, hq, ⟨c1, c2, c3⟩, h⟩ => by
  obtain ⟨as, r1⟩ := hp pins σ st v I rx
  obtain ⟨bs, r2⟩ := hq pins σ st u I ry
  exact SeqAt.eq_plain r1 r2 c1 c2 (by omega) ⟨.bl _, H, I, rfl, h⟩
theorem op_neP : OpR X (compareOp .NotEq) (rDat X PlainC fun p q => !PyData.eqv p q) := fun pins st σ H x y v u Q I rx ry ⟨p, q, hp, hq, ⟨c1, c2, c3⟩, h⟩ => by
  obtain ⟨as, r1⟩ := hp pins σ st v I rx
  obtain ⟨bs, r2⟩ := hq pins σ st u I ry
  exact SeqAt.ne_plain r1 r2 c1 c2 (by omega) ⟨.bl _, H, I, rfl, h⟩
theorem op_ltP : OpR X (compareOp .Lt) (rDat X AlikeC fun p q => PySem.W.dataLt p q) := fun pins st σ H x y v u Q I rx ry ⟨p, q, hp, hq, ⟨c1, c2, c3⟩, h⟩ => by
  obtain ⟨as, r1⟩ := hp pins σ st v I rx
  obtain ⟨bs, r2⟩ := hq pins σ st u I ry
  exact PySem.W.lt_data r1 r2 c1 c2 (by omega) ⟨.bl _, H, I, rfl, h⟩
theorem op_gtP : OpR X (compareOp .Gt) (rDat X AlikeC fun p q => PySem.W.dataLt q p) := fun pins st σ H x y v u Q I rx ry ⟨p, q, hp, hq, ⟨c1, c2, c3⟩, h⟩ => by
  obtain ⟨as, r1⟩ := hp pins σ st v I rx
  obtain ⟨bs, r2⟩ := hq pins σ st u I ry
  exact PySem.W.gt_data r1 r2 c1 c2 (by omega) ⟨.bl _, H, I, rfl, h⟩
theorem op_leP : OpR X (compareOp .LtE) (rDat X AlikeC fun p q => !PySem.W.dataLt q p) := fun pins st σ H x y v u Q I rx ry ⟨p, q, hp, hq, ⟨c1, c2, c3⟩, h⟩ => by
  obtain ⟨as, r1⟩ := hp pins σ st v I rx
  obtain ⟨bs, r2⟩ := hq pins σ st u I ry
  exact PySem.W.le_data r1 r2 c1 c2 (by omega) ⟨.bl _, H, I, rfl, h⟩
theorem op_geP : OpR X (compareOp .GtE) (rDat X AlikeC fun p q => !PySem.W.dataLt p q) := fun pins st σ H x y v u Q I rx ry ⟨p, q, hp, hq, ⟨c1, c2, c3⟩, h⟩ => by
  obtain ⟨as, r1⟩ := hp pins σ st v I rx
  obtain ⟨bs, r2⟩ := hq pins σ st u I ry
  exact PySem.W.ge_data r1 r2 c1 c2 (by omega) ⟨.bl _, H, I, rfl, h⟩
theorem op_inP : OpR X (compareOp .In) (rDat X InC inPy) := fun pins st σ H x y v u Q I rx ry ⟨p, q, hp, hq, ⟨c1, c2, c3⟩, h⟩ => by
  obtain ⟨as, r1⟩ := hp pins σ st v I rx
  obtain ⟨bs, r2⟩ := hq pins σ st u I ry
  rcases c3 with ⟨xs, rfl, hxs⟩ | ⟨xs, rfl, hxs⟩
  · exact SeqAt.in_list_data r2 r1 hxs c1 (by omega) ⟨.bl _, H, I, rfl, h⟩
  · exact SeqAt.in_tuple_data r2 r1 hxs c1 (by omega) ⟨.bl _, H, I, rfl, h⟩
theorem op_notInP : OpR X (compareOp .NotIn) (rDat X InC fun p q => !inPy p q) := fun pins st σ H x y v u Q I rx ry ⟨p, q, hp, hq, ⟨c1, c2, c3⟩, h⟩ => by
  obtain ⟨as, r1⟩ := hp pins σ st v I rx
  obtain ⟨bs, r2⟩ := hq pins σ st u I ry
  rcases c3 with ⟨xs, rfl, hxs⟩ | ⟨xs, rfl, hxs⟩
  · exact SeqAt.notIn_list_data r2 r1 hxs c1 (by omega) ⟨.bl _, H, I, rfl, h⟩
  · exact SeqAt.notIn_tuple_data r2 r1 hxs c1 (by omega) ⟨.bl _, H, I, rfl, h⟩
end
end Z

/-! Z6: operators and built-ins on things. -/
namespace Z
open PySem L2

/-! ### arithmetic -/
def dAdd : D → D → Sto → R D
  | .int i, .int j, S => .ok (.int (i + j)) S
  | .str x, .str y, S => guardR (x.length + y.length ≤ sizeLine) (.ok (.str (x ++ y)) S)
  | .tup xs, .tup ys, S => guardR (xs.length + ys.length ≤ sizeLine) (.ok (.tup (xs ++ ys)) S)
  | x, y, S => match listD x S, listD y S with
    | some xs, some ys => guardR (xs.length + ys.length ≤ sizeLine) (.ok (.lst (xs ++ ys)) S)
    | _, _ => .bad
def dSub : D → D → Sto → R D
  | .int i, .int j, S => .ok (.int (i - j)) S
  | _, _, _ => .bad
def dMul : D → D → Sto → R D
  | .int i, .int j, S => guardR ((-(2 ^ 64) < i ∧ i < 2 ^ 64) ∨ (-(2 ^ 64) < j ∧ j < 2 ^ 64)) (.ok (.int (i * j)) S)
  | .tup xs, .int k, S => guardR (xs.isEmpty = false ∧ 2 ≤ k ∧ k ≤ 1000 ∧ xs.length ≤ 1000) (.ok (.tup (List.replicate k.toNat xs).flatten) S)
  | _, _, _ => .bad
def dMod : D → D → Sto → R D
  | .int i, .int j, S => guardR (0 < j) (.ok (.int (i % j)) S)
  | _, _, _ => .bad
def dFdiv : D → D → Sto → R D
  | .int i, .int j, S => guardR (0 < j ∧ j < 1073741824) (.ok (.int (i / j)) S)
  | _, _, _ => .bad
def dPow : D → D → Sto → R D
  | .int i, .int j, S => guardR (0 ≤ j ∧ j ≤ 1000000 ∧ i.natAbs < 2 ^ 64) (.ok (.int (i ^ j.toNat)) S)
  | _, _, _ => .bad
theorem VRs.rep {K : PySem.W.Frag} {ρ : Pl} {H : Hp} {vs : List V} {ds : List D} (h : VRs K ρ H vs ds) : ∀ k : Nat, VRs K ρ H (List.replicate k vs).flatten (List.replicate k ds).flatten
  | 0 => .nil
  | k + 1 => by
    simp only [List.replicate_succ, List.flatten_cons]
    exact h.append (VRs.rep h k)
section
variable {K : PySem.W.Frag}
def rAddR (K : PySem.W.Frag) : R2 := fun x y H Q => rI0 (fun i j => .int (i + j)) x y H Q ∨ (∃ i j, x = .str i ∧ y = .str j ∧ i.length + j.length ≤ sizeLine ∧ Q (.str (i ++ j)) H) ∨ rCatA K x y H Q ∨ rCat x y H Q
theorem add_lists {Wk : XK} {ρ : Pl} {S : Sto} {H : Hp} {x y : V} {dx dy : D} {Q : VK} (s : SR K ρ S H) (rx : VR K ρ H x dx) (ry : VR K ρ H y dy)
    (h : Post K Wk ρ H (match listD dx S, listD dy S with
    | some xs, some ys => guardR (xs.length + ys.length ≤ sizeLine) (.ok (.lst (xs ++ ys)) S)
    | _, _ => .bad) (VR K) Q) : rCat x y H Q := by
  split at h
  · rename_i xs ys h1 h2
    obtain ⟨hz, h⟩ := guardR_post h
    obtain ⟨a, vs, rfl, ha, hs⟩ := listD_of s rx h1
    obtain ⟨b, ws, rfl, hb, gs⟩ := listD_of s ry h2
    exact ⟨a, b, vs, ws, rfl, rfl, ha, hb, by rw [hs.length, gs.length]; exact hz, h.newLst s (hs.append gs)⟩
  · exact h.elim
theorem dAdd_ok : OpS K dAdd (rAddR K) := fun Wk ρ S H x y dx dy Q s rx ry h => by
  unfold dAdd at h
  split at h
  · cases rx; cases ry
    exact .inl ⟨_, _, rfl, rfl, h.here s (.int _)⟩
  · cases rx; cases ry
    obtain ⟨hz, h⟩ := guardR_post h
    exact .inr (.inl ⟨_, _, rfl, rfl, hz, h.here s (.str _)⟩)
  · obtain ⟨hz, h⟩ := guardR_post h
    obtain ⟨a, vs, rfl, ha, hs⟩ := tup_of rx
    obtain ⟨b, ws, rfl, hb, gs⟩ := tup_of ry
    refine .inr (.inr (.inl ⟨a, b, vs, ws, rfl, rfl, ha, hb, by rw [hs.length, gs.length]; exact hz, fun e => ?_, fun e1 e2 => ?_, fun _ _ => h.newTup s (hs.append gs)⟩))
    · subst e
      cases hs
      exact h.here s ry
    · subst e2
      cases gs
      exact h.here s (by simpa using rx)
  · exact .inr (.inr (.inr (add_lists s rx ry h)))
theorem dSub_ok : OpS K dSub (rI0 fun i j => .int (i - j)) := fun Wk ρ S H x y dx dy Q s rx ry h => by
  unfold dSub at h
  split at h
  · cases rx; cases ry
    exact ⟨_, _, rfl, rfl, h.here s (.int _)⟩
  · exact h.elim
def rMulR (K : PySem.W.Frag) : R2 := fun x y H Q => rI CMul (fun i j => .int (i * j)) x y H Q ∨ rRepT K x y H Q
theorem dMul_ok : OpS K dMul (rMulR K) := fun Wk ρ S H x y dx dy Q s rx ry h => by
  unfold dMul at h
  split at h
  · cases rx; cases ry
    obtain ⟨hc, h⟩ := guardR_post h
    exact .inl ⟨_, _, rfl, rfl, hc, h.here s (.int _)⟩
  · obtain ⟨⟨h1, h2, h3, h4⟩, h⟩ := guardR_post h
    cases ry
    obtain ⟨a, vs, rfl, ha, hs⟩ := tup_of rx
    refine .inr ⟨a, _, vs, rfl, rfl, ha, ?_, h2, h3, by rw [hs.length]; exact h4, h.newTup s (hs.rep _)⟩
    rintro rfl; cases hs; cases h1
  · exact h.elim
theorem dMod_ok : OpS K dMod (rI (fun _ j => 0 < j) fun i j => .int (i % j)) := fun Wk ρ S H x y dx dy Q s rx ry h => by
  unfold dMod at h
  split at h
  · cases rx; cases ry
    obtain ⟨hc, h⟩ := guardR_post h
    exact ⟨_, _, rfl, rfl, hc, h.here s (.int _)⟩
  · exact h.elim
theorem dFdiv_ok : OpS K dFdiv (rI CDiv fun i j => .int (i / j)) := fun Wk ρ S H x y dx dy Q s rx ry h => by
  unfold dFdiv at h
  split at h
  · cases rx; cases ry
    obtain ⟨hc, h⟩ := guardR_post h
    exact ⟨_, _, rfl, rfl, hc, h.here s (.int _)⟩
  · exact h.elim
theorem dPow_ok : OpS K dPow (rI CPow fun i j => .int (i ^ j.toNat)) := fun Wk ρ S H x y dx dy Q s rx ry h => by
  unfold dPow at h
  split at h
  · cases rx; cases ry
    obtain ⟨hc, h⟩ := guardR_post h
    exact ⟨_, _, rfl, rfl, hc, h.here s (.int _)⟩
  · exact h.elim
/-! ### comparisons -/
def dDat (c f : PyData → PyData → Bool) : D → D → Sto → R D := fun x y S => match toPy x S, toPy y S with
  | some p, some q => if c p q = true then .ok (.bl (f p q)) S else .bad
  | _, _ => .bad
def notNone : PyData → Bool
  | .none => false
  | _ => true
def plainB (p q : PyData) : Bool := p.plain && q.plain && decide (p.depth ≤ 64)
def alikeB (p q : PyData) : Bool := PySem.W.alike p q && notNone p && decide (p.depth ≤ 64)
def inB (p q : PyData) : Bool := p.plain && decide (p.depth ≤ 64) && match q with
  | .list xs => PyData.plainAll xs
  | .tuple xs => PyData.plainAll xs
  | _ => false
abbrev dEq := dDat plainB PyData.eqv
abbrev dNe := dDat plainB fun p q => !PyData.eqv p q
abbrev dLt := dDat alikeB fun p q => PySem.W.dataLt p q
abbrev dGt := dDat alikeB fun p q => PySem.W.dataLt q p
abbrev dLe := dDat alikeB fun p q => !PySem.W.dataLt q p
abbrev dGe := dDat alikeB fun p q => !PySem.W.dataLt p q
theorem dDat_ok {X : Cx} {C : PyData → PyData → Prop} {c f : PyData → PyData → Bool} (hc : ∀ p q, c p q = true → C p q) : OpS X.K (dDat c f) (rDat X C f) := fun Wk ρ S H x y dx dy Q s rx ry h => by
  unfold dDat at h
  split at h
  · rename_i p q h1 h2
    split at h
    · exact ⟨p, q, rdP_of s rx h1, rdP_of s ry h2, hc _ _ (by assumption), h.here s (.bl _)⟩
    · exact h.elim
  · exact h.elim
theorem plainB_C (p q : PyData) (h : plainB p q = true) : PlainC p q := by
  simp only [plainB, Bool.and_eq_true, decide_eq_true_eq] at h
  exact ⟨h.1.1, h.1.2, h.2⟩
theorem alikeB_C (p q : PyData) (h : alikeB p q = true) : AlikeC p q := by
  simp only [alikeB, Bool.and_eq_true, decide_eq_true_eq] at h
  exact ⟨h.1.1, by rintro rfl; simp [notNone] at h, h.2⟩
theorem inB_C (p q : PyData) (h : inB p q = true) : InC p q := by
  simp only [inB, Bool.and_eq_true, decide_eq_true_eq] at h
  refine ⟨h.1.1, h.1.2, ?_⟩
  cases q with
  | list xs => exact .inl ⟨xs, rfl, h.2⟩
  | tuple xs => exact .inr ⟨xs, rfl, h.2⟩
  | _ => exact absurd h.2 (by simp)
/-- is None, is not None -/
def isNon : D → Option Bool
  | .non => some true
  | .ob _ => none
  | .fn _ => none
  | _ => some false
def dIsN (neg : Bool) : D → D → Sto → R D := fun x y S => match y with
  | .non => ofO ((isNon x).map fun b => .bl (if neg then !b else b)) S
  | _ => .bad
theorem isNon_of {ρ : Pl} {H : Hp} {v : V} {d : D} {b : Bool} (r : VR K ρ H v d) (h : isNon d = some b) : decide (v = .non) = b := by
  cases r <;> simp only [isNon, Option.some.injEq] at h <;> first | (subst h; rfl) | (subst h; exact decide_eq_false (fun q => nomatch q)) | cases h
theorem dIs_ok : OpS K (dIsN false) (fun x y H Q => y = .non ∧ Q (.bl (decide (x = .non))) H) := fun Wk ρ S H x y dx dy Q s rx ry h => by
  unfold dIsN at h
  split at h
  · cases ry
    obtain ⟨z, e, p⟩ := ofO_post h
    simp only [Option.map_eq_some_iff] at e
    obtain ⟨b, e1, rfl⟩ := e
    refine ⟨rfl, ?_⟩
    rw [isNon_of rx e1]
    exact p.here s (.bl _)
  · exact h.elim
theorem dIsNot_ok : OpS K (dIsN true) (fun x y H Q => y = .non ∧ Q (.bl (!decide (x = .non))) H) := fun Wk ρ S H x y dx dy Q s rx ry h => by
  unfold dIsN at h
  split at h
  · cases ry
    obtain ⟨z, e, p⟩ := ofO_post h
    simp only [Option.map_eq_some_iff] at e
    obtain ⟨b, e1, rfl⟩ := e
    refine ⟨rfl, ?_⟩
    rw [isNon_of rx e1]
    exact p.here s (.bl _)
  · exact h.elim
/-! ### items, slices -/
def seqR : D → Sto → Option (List D)
  | .tup ds, _ => some ds
  | .ktup ds, _ => some ds
  | d, S => listR d S
def dIx : D → D → Sto → R D
  | .str x, .int i, S => guardR (x.length ≤ sizeLine) (ofO ((atI x.cps.toList i).map fun c => .str ⟨#[c]⟩) S)
  | d, .int i, S => match seqR d S with
    | some ds => ofO (atI ds i) S
    | none => .bad
  | _, _, _ => .bad
theorem atI_of {ρ : Pl} {H : Hp} {vs : List V} {ds : List D} {i : Int} {d : D} (h : VRs K ρ H vs ds) (e : atI ds i = some d) : ∃ v, atI vs i = some v ∧ VR K ρ H v d := by
  unfold atI at e ⊢
  rw [h.length]
  cases q : ixN ds.length i with
  | none => rw [q] at e; cases e
  | some j => rw [q] at e; exact h.get e
theorem seqR_of {ρ : Pl} {H : Hp} {S : Sto} {v : V} {d : D} {ds : List D} (s : SR K ρ S H) (r : VR K ρ H v d) (h : seqR d S = some ds) : ∃ a xs, v = .ref a ∧ (SqL K H a xs ∨ SqT K H a xs) ∧ VRs K ρ H xs ds := by
  cases d with
  | tup es =>
    simp only [seqR, Option.some.injEq] at h
    subst h
    obtain ⟨a, xs, e, h1, h2⟩ := tup_of r
    exact ⟨a, xs, e, .inr h1, h2⟩
  | ktup es =>
    simp only [seqR, Option.some.injEq] at h
    subst h
    obtain ⟨a, xs, e, h1, h2⟩ := ktup_of r
    exact ⟨a, xs, e, .inr h1, h2⟩
  | _ =>
    obtain ⟨a, xs, e, h1, h2⟩ := listR_of s r h
    exact ⟨a, xs, e, .inl h1, h2⟩
theorem dIx_ok : OpS K dIx (rIx K) := fun Wk ρ S H x y dx dy Q s rx ry h => by
  unfold dIx at h
  split at h
  · cases rx; cases ry
    obtain ⟨hz, h⟩ := guardR_post h
    obtain ⟨z, e, p⟩ := ofO_post h
    simp only [Option.map_eq_some_iff] at e
    obtain ⟨c, e1, rfl⟩ := e
    exact .inr (.inr ⟨_, _, c, rfl, rfl, hz, e1, p.here s (.str _)⟩)
  · cases ry
    split at h
    · rename_i ds e
      obtain ⟨z, e1, p⟩ := ofO_post h
      obtain ⟨a, xs, rfl, h1, h2⟩ := seqR_of s rx e
      obtain ⟨v, k1, k2⟩ := atI_of h2 e1
      rcases h1 with h1 | h1
      · exact .inl ⟨a, xs, _, v, rfl, rfl, h1, k1, p.here s k2⟩
      · exact .inr (.inl ⟨a, xs, _, v, rfl, rfl, h1, k1, p.here s k2⟩)
    · exact h.elim
  · exact h.elim
def cutD (ds : List D) (lo hi : Option Int) : List D := (ds.drop (HT.sIx ds.length 0 lo)).take (HT.sIx ds.length ds.length hi - HT.sIx ds.length 0 lo)
theorem VRs.cut {ρ : Pl} {H : Hp} {vs : List V} {ds : List D} (h : VRs K ρ H vs ds) (lo hi : Option Int) : VRs K ρ H (cutV vs lo hi) (cutD ds lo hi) := by
  unfold cutV cutD
  rw [h.length]
  exact (h.drop _).take _
def dSl (d : D) (lo hi : Option Int) (S : Sto) : R D := match d with
  | .tup ds => .ok (.tup (cutD ds lo hi)) S
  | .str x => guardR (x.length ≤ sizeLine) (.ok (.str (cutS x lo hi)) S)
  | d => match listR d S with
    | some ds => .ok (.lst (cutD ds lo hi)) S
    | none => .bad
end

section
variable {X : Cx} {W : WX} {e a b : Expr} {m ma mb : ME} {pos p2 : Pos}
end
end Z

/-! Z7: slices, built-in calls, methods of lists, stores, while. -/
namespace Z
open PySem L2

/-! ### slices -/
def mPart : Option ME → Tau → Sto → R (Option Int)
  | none, _, S => .ok none S
  | some m, τ, S => (m τ S).bind fun d S1 => match d with
    | .int i => .ok (some i) S1
    | _ => .bad
abbrev relO : Pl → Hp → Option Int → Option Int → Prop := fun _ _ b b' => b = b'
def Om (K : PySem.W.Frag) (W : WX) (m : Option ME) : TO := fun σ H Q => ∃ ρ τ S, SR K ρ S H ∧ ER K ρ H τ σ ∧ Post K (fun c d H' => W c d σ H') ρ H (mPart m τ S) relO Q
def mSl (m : ME) (lo hi : Option ME) : ME := fun τ S => (m τ S).bind fun d S1 => (mPart lo τ S1).bind fun l S2 => (mPart hi τ S2).bind fun h S3 => dSl d l h S3
section
variable {X : Cx} {W : WX} {e a b : Expr} {m ma mb : ME} {pos p2 : Pos}
theorem PO_imp {X : Cx} {e : Option Expr} {t t' : TO} (h : PO X e t) (k : ∀ σ H Q, t' σ H Q → t σ H Q) : PO X e t' := ⟨fun pins s σ H Q I w => h.run pins s σ H Q I (k σ H Q w)⟩
theorem o_none : PO X none (Om X.K W none) := PO_imp po_none fun σ H Q ⟨ρ, τ, S, s, r, p⟩ => p.here s rfl
theorem o_some (he : PE X e (Em X.K W m)) : PO X (some e) (Om X.K W (some m)) := PO_imp (po_some he) fun σ H Q ⟨ρ, τ, S, s, r, p⟩ => by
  refine Em_bind s r p fun ρ1 H1 S1 v d s1 r1 e1 v1 p1 => ?_
  split at p1
  · cases v1
    exact ⟨_, rfl, p1.here s1 rfl⟩
  · exact p1.elim
def rSl (K : PySem.W.Frag) : V → Option Int → Option Int → Hp → VK → Prop := fun x lo hi H Q => rSlA K x lo hi H Q ∨ rSlL K x lo hi H Q ∨ rSlS x lo hi H Q
theorem dSl_ok {K : PySem.W.Frag} {Wk : XK} {ρ : Pl} {S : Sto} {H : Hp} {x : V} {d : D} {lo hi : Option Int} {Q : VK} (s : SR K ρ S H) (r : VR K ρ H x d) (h : Post K Wk ρ H (dSl d lo hi S) (VR K) Q) : rSl K x lo hi H Q := by
  unfold dSl at h
  split at h
  · rename_i ds
    obtain ⟨a, xs, rfl, h1, h2⟩ := tup_of r
    refine .inl ⟨a, xs, rfl, h1, fun w => ?_, fun _ => h.newTup s (h2.cut lo hi)⟩
    have e : cutD ds lo hi = ds := by
      unfold cutD
      rw [h2.length] at w
      rw [w.1, w.2]; simp
    rw [e] at h
    exact h.here s r
  · cases r
    obtain ⟨hz, h⟩ := guardR_post h
    exact .inr (.inr ⟨_, rfl, hz, h.here s (.str _)⟩)
  · split at h
    · rename_i ds e
      obtain ⟨a, xs, rfl, h1, h2⟩ := listR_of s r e
      exact .inr (.inl ⟨a, xs, rfl, h1, h.newLst s (h2.cut lo hi)⟩)
    · exact h.elim
theorem z_sl {lo hi : Option Expr} {ml mh : Option ME} (he : PE X e (Em X.K W m)) (hl : PO X lo (Om X.K W ml)) (hh : PO X hi (Om X.K W mh)) : PE X (.Subscript e (.Slice lo hi none p2) pos) (Em X.K W (mSl m ml mh)) :=
  PE_imp (pe_slice (r := rSl X.K) (sl_tupA.or (sl_list.or sl_str)) he hl hh) fun σ H Q ⟨ρ, τ, S, s, r, p⟩ => by
    refine Em_bind s r p fun ρ1 H1 S1 v d s1 r1 e1 v1 p1 => ?_
    refine ⟨ρ1, τ, S1, s1, r1, Post.bind p1 fun ρ2 H2 S2 l l' e2 s2 q2 p2 => ?_⟩
    have q2' : l = l' := q2
    subst q2'
    refine ⟨ρ2, τ, S2, s2, r1.mono e2, Post.bind p2 fun ρ3 H3 S3 u u' e3 s3 q3 p3 => ?_⟩
    have q3' : u = u' := q3
    subst q3'
    exact dSl_ok s3 ((v1.mono e2).mono e3) p3
end

/-! ### built-ins -/
def dLen : List D → Sto → R D
  | [.str x], S => guardR (x.length ≤ sizeLine) (.ok (.int x.length) S)
  | [d], S => match seqR d S with
    | some ds => .ok (.int ds.length) S
    | none => .bad
  | _, _ => .bad
section
variable {K : PySem.W.Frag}
theorem vrs1 {ρ : Pl} {H : Hp} {vs : List V} {d : D} (h : VRs K ρ H vs [d]) : ∃ v, vs = [v] ∧ VR K ρ H v d := by
  cases h with | cons h1 h2 => cases h2; exact ⟨_, rfl, h1⟩
theorem vrs2 {ρ : Pl} {H : Hp} {vs : List V} {d e : D} (h : VRs K ρ H vs [d, e]) : ∃ v w, vs = [v, w] ∧ VR K ρ H v d ∧ VR K ρ H w e := by
  cases h with | cons h1 h2 => cases h2 with | cons h2 h3 => cases h3; exact ⟨_, _, rfl, h1, h2⟩
theorem dLen_ok : CallS K dLen (fun xs H Q => ∃ x n, xs = [x] ∧ LenV K x H n ∧ Q (.int n) H) := fun Wk ρ S H vs ds Q s r h => by
  unfold dLen at h
  split at h
  · obtain ⟨v, rfl, r1⟩ := vrs1 r
    cases r1
    obtain ⟨hz, h⟩ := guardR_post h
    exact ⟨_, _, rfl, ⟨hz, rfl⟩, h.here s (.int _)⟩
  · obtain ⟨v, rfl, r1⟩ := vrs1 r
    split at h
    · rename_i es e
      obtain ⟨a, xs, rfl, h1, h2⟩ := seqR_of s r1 e
      refine ⟨.ref a, xs.length, rfl, ?_, h.here s (by rw [← h2.length]; exact .int _)⟩
      exact h1.imp (fun h => ⟨xs, h, rfl⟩) fun h => ⟨xs, h, rfl⟩
    · exact h.elim
  · exact h.elim
/-- isinstance(x, T), x data -/
def isaPy : String → PyData → Option Bool := fun T p =>
  if T = "int" then some p.isInt else if T = "bool" then some p.isBool else if T = "str" then some p.isStr else if T = "tuple" then some p.isTuple else if T = "list" then some p.isList else if T = "dict" then some p.isDict else none
def dIsa : List D → Sto → R D
  | [d, .ob (.ty T)], S => match toPy d S with
    | some p => ofO ((isaPy T p).map .bl) S
    | none => .bad
  | _, _ => .bad
def rIsaP (X : Cx) : List V → Hp → VK → Prop := fun vs H Q => ∃ x T p b, vs = [x, .ty T] ∧ RdP X H x p ∧ isaPy T p = some b ∧ Q (.bl b) H
theorem call_isaP {X : Cx} : CallR X (.builtin "isinstance") (rIsaP X) := by
  intro pins st σ H xs us Q I r ⟨x, T, p, b, e, hp, hb, h⟩
  subst e
  obtain ⟨u, w, rfl, r1, r2⟩ := vals2 r
  have r2' : w = .type T := r2
  subst r2'
  obtain ⟨as, hr⟩ := hp pins σ st u I r1
  have fin : ∀ tk, EP X pins σ Q (.bool b) { st with toks := tk } := fun tk => ⟨.bl b, H, I.tok tk, rfl, h⟩
  unfold isaPy at hb
  split at hb
  · rename_i e; subst e; cases hb; exact PySem.W.isinstance_int_data hr fun tk _ => fin tk
  · split at hb
    · rename_i e; subst e; cases hb; exact PySem.W.isinstance_bool_data hr fun tk _ => fin tk
    · split at hb
      · rename_i e; subst e; cases hb; exact PySem.W.isinstance_str_data hr fun tk _ => fin tk
      · split at hb
        · rename_i e; subst e; cases hb; exact PySem.W.isinstance_tuple_data hr fun tk _ => fin tk
        · split at hb
          · rename_i e; subst e; cases hb; exact PySem.W.isinstance_list_data hr fun tk _ => fin tk
          · split at hb
            · rename_i e; subst e; cases hb; exact PySem.W.isinstance_dict_data hr fun tk _ => fin tk
            · cases hb
theorem dIsa_ok {X : Cx} : CallS X.K dIsa (rIsaP X) := fun Wk ρ S H vs ds Q s r h => by
  unfold dIsa at h
  split at h
  · obtain ⟨v, w, rfl, r1, r2⟩ := vrs2 r
    cases r2
    split at h
    · rename_i p e
      obtain ⟨z, e1, p1⟩ := ofO_post h
      simp only [Option.map_eq_some_iff] at e1
      obtain ⟨b, e2, rfl⟩ := e1
      exact ⟨v, _, p, b, rfl, rdP_of s r1 e, e2, p1.here s (.bl _)⟩
    · exact h.elim
  · exact h.elim
/-- all(list of truths) -/
def boolsOf : List D → Option (List Bool)
  | [] => some []
  | .bl b :: ds => (boolsOf ds).map (b :: ·)
  | _ => none
def dAll : List D → Sto → R D
  | [d], S => match listR d S with
    | some ds => ofO ((boolsOf ds).map fun bs => .bl (bs.all id)) S
    | none => .bad
  | _, _ => .bad
theorem bools_of {ρ : Pl} {H : Hp} : ∀ {vs : List V} {ds : List D} {bs : List Bool}, VRs K ρ H vs ds → boolsOf ds = some bs → vs = bs.map V.bl
  | _, _, bs, .nil, h => by simp [boolsOf] at h; subst h; rfl
  | _, _, bs, .cons r rs, h => by
    cases r with
    | bl b =>
      simp only [boolsOf, Option.map_eq_some_iff] at h
      obtain ⟨cs, h1, rfl⟩ := h
      rw [bools_of rs h1]; rfl
    | _ => simp [boolsOf] at h
theorem dAll_ok : CallS K dAll (rAll K) := fun Wk ρ S H vs ds Q s r h => by
  unfold dAll at h
  split at h
  · obtain ⟨v, rfl, r1⟩ := vrs1 r
    split at h
    · rename_i es e
      obtain ⟨z, e1, p1⟩ := ofO_post h
      simp only [Option.map_eq_some_iff] at e1
      obtain ⟨bs, e2, rfl⟩ := e1
      obtain ⟨a, xs, rfl, h1, h2⟩ := listR_of s r1 e
      have := bools_of h2 e2
      subst this
      exact ⟨a, bs, rfl, h1, p1.here s (.bl _)⟩
    · exact h.elim
  · exact h.elim
def dInt : List D → Sto → R D
  | [.int i], S => .ok (.int i) S
  | [.bl b], S => .ok (.int (if b then 1 else 0)) S
  | _, _ => .bad
theorem dInt_ok : CallS K dInt (fun xs H Q => (∃ i, xs = [.int i] ∧ Q (.int i) H) ∨ ∃ k, xs = [.bl k] ∧ Q (.int (if k then 1 else 0)) H) := fun Wk ρ S H vs ds Q s r h => by
  unfold dInt at h
  split at h
  · obtain ⟨v, rfl, r1⟩ := vrs1 r
    cases r1
    exact .inl ⟨_, rfl, h.here s (.int _)⟩
  · obtain ⟨v, rfl, r1⟩ := vrs1 r
    cases r1
    exact .inr ⟨_, rfl, h.here s (.int _)⟩
  · exact h.elim
def dMax2 : List D → Sto → R D
  | [.int i, .int j], S => .ok (.int (if j > i then j else i)) S
  | _, _ => .bad
def dMin2 : List D → Sto → R D
  | [.int i, .int j], S => .ok (.int (if j < i then j else i)) S
  | _, _ => .bad
theorem dMax2_ok : CallS K dMax2 (fun xs H Q => ∃ i j, xs = [.int i, .int j] ∧ Q (.int (if j > i then j else i)) H) := fun Wk ρ S H vs ds Q s r h => by
  unfold dMax2 at h
  split at h
  · obtain ⟨v, w, rfl, r1, r2⟩ := vrs2 r
    cases r1; cases r2
    exact ⟨_, _, rfl, h.here s (.int _)⟩
  · exact h.elim
theorem dMin2_ok : CallS K dMin2 (fun xs H Q => ∃ i j, xs = [.int i, .int j] ∧ Q (.int (if j < i then j else i)) H) := fun Wk ρ S H vs ds Q s r h => by
  unfold dMin2 at h
  split at h
  · obtain ⟨v, w, rfl, r1, r2⟩ := vrs2 r
    cases r1; cases r2
    exact ⟨_, _, rfl, h.here s (.int _)⟩
  · exact h.elim
def dDivmod : List D → Sto → R D
  | [.int i, .int j], S => guardR (0 < j ∧ j < 1073741824) (.ok (.tup [.int (i / j), .int (i % j)]) S)
  | _, _ => .bad
theorem dDivmod_ok : CallS K dDivmod (fun xs H Q => ∃ i j, xs = [.int i, .int j] ∧ CDiv i j ∧ ∀ p, H p = none → Q (.ref p) (upd H p (.tup [.int (i / j), .int (i % j)]))) := fun Wk ρ S H vs ds Q s r h => by
  unfold dDivmod at h
  split at h
  · obtain ⟨v, w, rfl, r1, r2⟩ := vrs2 r
    cases r1; cases r2
    obtain ⟨hc, h⟩ := guardR_post h
    exact ⟨_, _, rfl, hc, h.newTup s (.cons (.int _) (.cons (.int _) .nil))⟩
  · exact h.elim
def dTuple : List D → Sto → R D
  | [.tup ds], S => .ok (.tup ds) S
  | [d], S => match listR d S with
    | some ds => .ok (.tup ds) S
    | none => .bad
  | _, _ => .bad
theorem dTuple_ok : CallS K dTuple (fun xs H Q => ∃ p ys, xs = [.ref p] ∧ ((SqL K H p ys ∧ ∀ l, H l = none → Q (.ref l) (upd H l (.tup ys))) ∨ (SqT K H p ys ∧ Q (.ref p) H))) := fun Wk ρ S H vs ds Q s r h => by
  unfold dTuple at h
  split at h
  · obtain ⟨v, rfl, r1⟩ := vrs1 r
    obtain ⟨a, xs, rfl, h1, h2⟩ := tup_of r1
    exact ⟨a, xs, rfl, .inr ⟨h1, h.here s r1⟩⟩
  · obtain ⟨v, rfl, r1⟩ := vrs1 r
    split at h
    · rename_i es e
      obtain ⟨a, xs, rfl, h1, h2⟩ := listR_of s r1 e
      exact ⟨a, xs, rfl, .inl ⟨h1, h.newTup s h2⟩⟩
    · exact h.elim
  · exact h.elim
def dList : List D → Sto → R D
  | [d], S => match seqR d S with
    | some ds => .ok (.lst ds) S
    | none => .bad
  | _, _ => .bad
theorem dList_ok : CallS K dList (fun xs H Q => ∃ p ys, xs = [.ref p] ∧ (SqL K H p ys ∨ SqT K H p ys) ∧ ∀ l, H l = none → Q (.ref l) (upd H l (.lst ys))) := fun Wk ρ S H vs ds Q s r h => by
  unfold dList at h
  split at h
  · obtain ⟨v, rfl, r1⟩ := vrs1 r
    split at h
    · rename_i es e
      obtain ⟨a, xs, rfl, h1, h2⟩ := seqR_of s r1 e
      exact ⟨a, xs, rfl, h1, h.newLst s h2⟩
    · exact h.elim
  · exact h.elim
/-! ### repr -/
def reprOk (p : PyData) : Bool := p.showable && decide (p.depth ≤ 64) && decide (p.shown.length ≤ sizeLine)
def dRepr : List D → Sto → R D
  | [d], S => match toPy d S with
    | some p => if (reprOk p && (!p.hasDict || noList d)) = true then .ok (.str p.shown) S else .bad
    | none => .bad
  | _, _ => .bad
def rReprP (X : Cx) : List V → Hp → VK → Prop := fun vs H Q => ∃ x p, vs = [x] ∧ ((RdP X H x p ∧ p.hasDict = false) ∨ RdS X H x p) ∧ reprOk p = true ∧ Q (.str p.shown) H
theorem call_reprP {X : Cx} (hu : X.A.units + 100 < cLine) (hg : X.A.guards = some []) : CallR X (.builtin "repr") (rReprP X) := by
  intro pins st σ H xs us Q I r ⟨x, p, e, hp, hk, h⟩
  subst e
  obtain ⟨u, rfl, r1⟩ := vals1 r
  simp only [reprOk, Bool.and_eq_true, decide_eq_true_eq] at hk
  obtain ⟨⟨k1, k2⟩, k3⟩ := hk
  obtain ⟨as, hr, hs⟩ : ∃ as, Reads st.heap u p as ∧ (p.hasDict = true → sysModules ∉ as) := by
    rcases hp with ⟨hp, hd⟩ | hp
    · obtain ⟨as, hr⟩ := hp pins σ st u I r1
      exact ⟨as, hr, fun z => by rw [hd] at z; cases z⟩
    · obtain ⟨as, hr, hs⟩ := hp pins σ st u I r1
      exact ⟨as, hr, fun _ => hs⟩
  have fin : ∀ h' tk, (∀ b o, st.heap.get? b = some o → h'.get? b = some o) → ∀ t, EP X pins σ Q (.str p.shown t) { st with heap := h', toks := tk } := fun h' tk k t => ⟨.str p.shown, H, I.kept k, ⟨t, rfl⟩, h⟩
  cases hr with
  | none => exact P.repr_of_none (fin st.heap _ (fun _ _ e => e) _)
  | bool b => exact P.repr_of_bool (by
      have := fin st.heap (st.toks + 1) (fun _ _ e => e) st.toks
      simpa only [PyData.shown] using this)
  | int i t =>
    simp only [PyData.showable, decide_eq_true_eq] at k1
    exact P.repr_of_int k1 (by
      have := fin st.heap (st.toks + 1) (fun _ _ e => e) st.toks
      simpa only [PyData.shown] using this)
  | str z t =>
    refine P.repr_of_str (by
      have := fin st.heap (st.toks + 1) (fun _ _ e => e) st.toks
      simpa only [PyData.shown] using this) (by simpa only [PyData.shown] using k3)
  | list h1 h2 h3 h4 => exact repr_of_reads' (.list h1 h2 h3 h4) k1 hs hg (by omega) (fun _ _ e => e) (fun h' t tk k => fin h' tk k t) k3
  | tuple h1 h2 h3 h4 => exact repr_of_reads' (.tuple h1 h2 h3 h4) k1 hs hg (by omega) (fun _ _ e => e) (fun h' t tk k => fin h' tk k t) k3
  | dict h1 h2 h3 h4 h5 => exact repr_of_reads' (.dict h1 h2 h3 h4 h5) k1 hs hg (by omega) (fun _ _ e => e) (fun h' t tk k => fin h' tk k t) k3
theorem dRepr_ok {X : Cx} : CallS X.K dRepr (rReprP X) := fun Wk ρ S H vs ds Q s r h => by
  unfold dRepr at h
  split at h
  · obtain ⟨v, rfl, r1⟩ := vrs1 r
    split at h
    · rename_i p e
      split at h
      · rename_i c
        simp only [Bool.and_eq_true, Bool.or_eq_true, Bool.not_eq_true'] at c
        refine ⟨v, p, rfl, ?_, c.1, h.here s (.str _)⟩
        rcases c.2 with c | c
        · exact .inl ⟨rdP_of s r1 e, c⟩
        · refine .inr (rdS_of r1 ?_ c)
          rename_i d _ _
          cases d with
          | loc l => simp [noList] at c
          | _ => exact e
      · exact h.elim
    · exact h.elim
  · exact h.elim
end
end Z

/-! Z8: methods of lists, stores into lists, empty dicts, defs by their bodies, the law's end. -/
namespace Z
open PySem L2

/-! ### methods of built-in types -/
def isTy (T : String) : D → Sto → Bool
  | .lst _, _ => T == "list"
  | .scr _, _ => T == "list"
  | .str _, _ => T == "str"
  | .dct _ _, _ => T == "dict"
  | .loc l, S => match S[l]? with
    | some (.lst _) => T == "list"
    | some (.dK false _) => T == "dict"
    | some (.dT false _) => T == "dict"
    | _ => false
  | _, _ => false
theorem isTy_of {K : PySem.W.Frag} {ρ : Pl} {H : Hp} {S : Sto} {v : V} {d : D} {T : String} (s : SR K ρ S H) (r : VR K ρ H v d) (h : isTy T d S = true) : tyV K T v H := by
  cases r with
  | lst h1 h2 hs => exact .inl ⟨by simpa [isTy] using h, _, SqL.of h1⟩
  | scr h1 hs =>
    obtain ⟨a, xs, e, k1, k2⟩ := listR_of s (VR.scr h1 hs) rfl
    cases e
    exact .inl ⟨by simpa [isTy] using h, _, k1⟩
  | str x => exact (by simpa [isTy] using h : T = "str")
  | dct h1 h2 hk hs => exact .inr (.inr (.inl ⟨by simpa [isTy] using h, .inl ⟨_, h1⟩⟩))
  | @loc a l hl =>
    simp only [isTy] at h
    split at h
    · rename_i ds e
      obtain ⟨xs, k1, k2⟩ := s.at hl e
      exact .inl ⟨by simpa using h, _, SqL.of k1⟩
    · rename_i kvs e
      obtain ⟨ws, k1, k2⟩ := s.at hl e
      exact .inr (.inr (.inl ⟨by simpa using h, .inl ⟨_, k1⟩⟩))
    · rename_i kvs e
      obtain ⟨ws, k1, k2⟩ := s.at hl e
      exact .inr (.inr (.inl ⟨by simpa using h, .inr ⟨_, k1⟩⟩))
    · cases h
  | _ => simp [isTy] at h
def MethS (K : PySem.W.Frag) (f : D → List D → Sto → R D) (r : V → List V → Hp → VK → Prop) : Prop := ∀ (Wk : XK) (ρ : Pl) (S : Sto) (H : Hp) (v : V) (d : D) (vs : List V) (ds : List D) (Q : VK), SR K ρ S H → VR K ρ H v d → VRs K ρ H vs ds → Post K Wk ρ H (f d ds S) (VR K) Q → r v vs H Q
def mMeth (T : String) (f : D → List D → Sto → R D) (m : ME) (ms : MA) : ME := fun τ S => (m τ S).bind fun o S1 => if isTy T o S1 = true then (ms τ S1).bind fun xs S2 => f o xs S2 else .bad
section
variable {X : Cx} {W : WX} {o e : Expr} {es : List Expr} {m : ME} {ms : MA} {name : Str} {apos cpos : Pos} {T id : String} {r : V → List V → Hp → VK → Prop} {f : D → List D → Sto → R D}
theorem z_meth (pa : PlainAttrs T) (slot : Slot T name id) (hty : typeOf (.builtin id) = pure (.type "method_descriptor")) (hm : MtR X id r) (hs : MethS X.K f r) (ho : PE X o (Em X.K W m)) (ha : PA X (e :: es) (Am X.K W ms))
    (h : PE X (.Call (.Attribute o name apos) (e :: es) [] cpos) (tBM X.K T r (Em X.K W m) (Am X.K W ms))) : PE X (.Call (.Attribute o name apos) (e :: es) [] cpos) (Em X.K W (mMeth T f m ms)) := PE_imp h fun σ H Q ⟨ρ, τ, S, s, er, p⟩ => by
  refine Em_bind s er p fun ρ1 H1 S1 v d s1 r1 e1 v1 p1 => ?_
  split at p1
  · rename_i c
    refine ⟨isTy_of s1 v1 c, Am_bind s1 r1 p1 fun ρ2 H2 S2 vs ds s2 r2 e2 v2 p2 => hs _ ρ2 S2 H2 v d vs ds Q s2 (v1.mono e2) v2 p2⟩
  · exact p1.elim
/-- xs.append(e) -/
def dAppend : D → List D → Sto → R D
  | .loc l, [y], S => match S[l]? with
    | some (.lst ds) => guardR (ds.length < sizeLine) (.ok .non (S.set l (.lst (ds ++ [y]))))
    | _ => .bad
  | _, _, _ => .bad
/-- a list of the store is changed -/
theorem setLst {K : PySem.W.Frag} {Wk : XK} {ρ : Pl} {S : Sto} {H : Hp} {l : Nat} {a : Addr} {d : D} {v : V} {xs ys : List V} {es : List D} {Q : VK} (s : SR K ρ S H) (hl : ρ.loc[l]? = some a) (k1 : H a = some (.lst xs)) (rs : VRs K ρ H ys es) (rv : VR K ρ H v d)
    (h : Post K Wk ρ H (.ok d (S.set l (.lst es))) (VR K) Q) : Q v (upd H a (.lst ys)) :=
  h ρ _ v (Ext.set hl (.of k1)) (s.set hl ⟨ys, upd_same, rs.mono (Ext.set hl (.of k1))⟩) (rv.mono (Ext.set hl (.of k1)))
theorem dAppend_ok {K : PySem.W.Frag} : MethS K dAppend rAppend := fun Wk ρ S H v d vs ds Q s r rs h => by
  unfold dAppend at h
  split at h
  · obtain ⟨y, rfl, ry⟩ := vrs1 rs
    split at h
    · rename_i es e
      obtain ⟨hz, h⟩ := guardR_post h
      cases r with
      | @loc a _ hl =>
        obtain ⟨xs, k1, k2⟩ := s.at hl e
        exact ⟨a, xs, y, rfl, rfl, k1, by rw [k2.length]; exact hz, setLst s hl k1 (k2.append (.cons ry .nil)) .non h⟩
    · exact h.elim
  · exact h.elim
theorem z_append (ho : PE X o (Em X.K W m)) (ha : PA X [e] (Am X.K W ms)) (h : PE X (.Call (.Attribute o "append" apos) [e] [] cpos) (tBM X.K "list" rAppend (Em X.K W m) (Am X.K W ms))) :
    PE X (.Call (.Attribute o "append" apos) [e] [] cpos) (Em X.K W (mMeth "list" dAppend m ms)) := z_meth PySem.F.plainAttrs_list PySem.F.slot_list_append PySem.F.type_list_append mt_append dAppend_ok ho ha h
/-! ### a[i] = e -/
def sSub (o i v : ME) : MS := fun τ S => liftS (v τ S) τ fun y S1 => liftS (o τ S1) τ fun a S2 => liftS (i τ S2) τ fun k S3 => match a, k with
  | .loc l, .int n => match S3[l]? with
    | some (.lst ds) => match ixN ds.length n with
      | some j => .nx τ (S3.set l (.lst (ds.set j y)))
      | none => .bad
    | _ => .bad
  | _, _ => .bad
/-! ### {} -/
def mDct0 : ME := fun _ S => .ok (.dct [] []) S
def mDctN : ME := fun _ S => .ok (.loc S.length) (S ++ [.dK false []])
def mDctT : ME := fun _ S => .ok (.loc S.length) (S ++ [.dT false []])
variable {pos : Pos}
theorem z_dictN : PE X (.Dict [] [] pos) (Em X.K W mDctN) := PE_imp pe_dnewK fun σ H Q ⟨ρ, τ, S, s, r, p⟩ => fun q hq => p (ρ.push q) _ _ (Ext.push hq) (s.push hq ⟨[], upd_same, .nil⟩) (.loc (Pl.push_get s))
theorem z_dictT : PE X (.Dict [] [] pos) (Em X.K W mDctT) := PE_imp pe_dnewT fun σ H Q ⟨ρ, τ, S, s, r, p⟩ => fun q hq => p (ρ.push q) _ _ (Ext.push hq) (s.push hq ⟨[], upd_same, .nil⟩) (.loc (Pl.push_get s))
end

/-! ### a def by its body -/
/-- the body run on the arguments, N slots in all -/
def runD (n N : Nat) (b : MS) : List D → Sto → R D := fun ds S => if ds.length = n then (match b (ds.map some ++ List.replicate (N - ds.length) none) S with
  | .rt d S' => .ok d S'
  | .nx _ S' => .ok .non S'
  | .ex _ c fs S' => .ex c fs S'
  | _ => .bad) else .bad
theorem er_start {K : PySem.W.Frag} {ρ : Pl} {H : Hp} {vs : List V} {ds : List D} {N : List Str} (r : VRs K ρ H vs ds) : ER K ρ H (ds.map some ++ List.replicate (N.length - ds.length) none) (L2.start N vs) := by
  unfold L2.start
  refine ⟨by simp [r.length], fun i d h => ?_⟩
  by_cases hi : i < ds.length
  · rw [List.getElem?_append_left (by simpa using hi), List.getElem?_map] at h
    cases q : ds[i]? with
    | none => rw [q] at h; cases h
    | some e =>
      rw [q] at h
      cases h
      obtain ⟨v, h1, h2⟩ := r.get q
      refine ⟨v, ?_, h2⟩
      rw [List.getElem?_append_left (by simp [r.length, hi]), List.getElem?_map, h1]; rfl
  · rw [List.getElem?_append_right (by simpa using hi)] at h
    rw [List.getElem?_replicate] at h
    split at h <;> cases h
section
variable {P : Program} {w : World} {K : PySem.W.Frag} {mg : Str → Option Value} {base : Heap}
/-- the context of a body -/
abbrev bodyCx (P : Program) (w : World) (K : PySem.W.Frag) (mg : Str → Option Value) (base : Heap) (N : List Str) (qual : Str) (st : Stmt) (g : Addr) (cdv : Value) (A : Around) (fs : List Env) (s : Shared) (H : Hp) (E : XK) : Cx := cxOf (L2.CX P w) P w K mg base N qual (defScope st) g cdv A fs s H E
theorem fnG_of {x qual : Str} {st : Stmt} {g : Addr} {fd : FuncData} {N ps : List Str} {k n : Nat} {b : MS} (F : Fun K x qual st g fd) (Sc : FnScope N ps (defScope st)) (hn : ps.length = n)
    (hb : ∀ (cdv : Value) (A : Around) (fs : List Env) (s : Shared) (H : Hp) (E : XK), Room k (bodyCx P w K mg base N qual st g cdv A fs s H E).A → (bodyCx P w K mg base N qual st g cdv A fs s H E).A.guards = some [] →
      PSs (bodyCx P w K mg base N qual st g cdv A fs s H E) (defBody st) (Sm K (fun c d _ H' => E c d H') b)) :
    FnG P w K mg base (k + 1) g fd ps (runD n N.length b) := by
  refine ⟨fun ds S h => ?_, ?_⟩
  · unfold runD at h
    split at h
    · omega
    · exact absurd rfl h
  intro A fs s H ar us vs Q E hr hg e0 hbd hv hsf
  obtain ⟨oc, od, kV, doc, pm, an, cdv, ct, osl, rfl, lk, hcd⟩ := F.ex
  obtain ⟨ρ, S, ds, sr, dv, po⟩ := hsf
  unfold runD at po
  split at po
  case isFalse => exact po.elim
  rename_i hlen
  have hlv : vs.length = ps.length := by rw [dv.length, hn]; exact hlen
  have KX : K.In s.heap := e0.mod.kin.keeps fun b o e => (e0.bs b o e).1
  have lim : s.heap.NoLimit := e0.mod.nolimit.keeps fun b o e => (e0.bs b o e).1
  have hkind : ∀ y ∈ ps.zip us, (defScope st).names.lookup y.1 = some .local ∨ ((defScope st).names.lookup y.1 = some .cell ∧ ((cellsFrom (s.heap.objs.size + 1) (defScope st).names []).lookup y.1).isSome = true) := by
    rintro ⟨nm, u⟩ hy
    rcases Sc.par nm (List.of_mem_zip hy).1 with q | q
    · exact .inl q
    · exact .inr ⟨q, PySem.W.cellsFrom_some _ _ _ (.inl q)⟩
  refine codeAny_call_function hr.depth (KX _ _ lk) rfl Sc.co Sc.gen rfl (PySem.W.codeRec_of KX hcd) (hbd _ _ _ _ ?_)
  refine wpAny_newFunctionEnv_cells Sc.kind hkind ?_
  intro env he s1 ic
  subst he
  refine ⟨lim.keeps ic.toInCall.keep, codeAny_func ?_⟩
  have body := hb cdv A fs s H E (hr.deeper _) hg
  have I := inv_start (CX := L2.CX P w) (E := E) Sc hr.hd e0 hlv hv ic
  refine wpAny_mono (body.run [] s1 (L2.start N vs) H { nx := fun _ H' => Q .non H', rt := Q } I ?_) ?_ fun _ _ z => z
  · refine ⟨ρ, _, S, sr, er_start dv, ?_⟩
    cases q : b (ds.map some ++ List.replicate (N.length - ds.length) none) S with
    | rt d S' => rw [q] at po; exact po
    | nx τ' S' => rw [q] at po; exact fun ρ' σ' H' e' s' _ => po ρ' H' .non e' s' .non
    | ex τ' c fs2 S' => rw [q] at po; exact fun ρ' σ' H' dd e' s' _ x' => po ρ' H' dd e' s' x'
    | bk τ' S' => rw [q] at po; exact po.elim
    | ct τ' S' => rw [q] at po; exact po.elim
    | bad => rw [q] at po; exact po.elim
  · intro fl s' hs
    have fin : ∀ {σ' : St} {H' : Hp} {v : V} {u : Value}, Inv (bodyCx P w K mg base N qual st g cdv A fs s H E) [] σ' H' s' → RelV v u → Q v H' → CE fs P w H s Q u s' :=
      fun {σ' H' v u} J rv q => ⟨v, H', J.os, J.bare, J.base, J.hok, rv, q⟩
    match fl, hs with
    | .ret u, ⟨v, σ', H', J, rv, q⟩ => exact fin J rv q
    | .next, ⟨σ', H', J, q⟩ => exact fin (v := .non) (u := .none) J rfl q
    | .brk, ⟨_, _, _, q⟩ => exact q.elim
    | .cont, ⟨_, _, _, q⟩ => exact q.elim
end

/-! ### the law's end -/
section
open PySem.Spec PyProof.Rows
/-- a heap in which the script alone is told, if it is no object of the text -/
def seeOnly (a : Addr) (o : Option HO) : Hp := fun b => if b = a then o else none
theorem seeOnly_some {a b : Addr} {o : Option HO} {u : HO} (h : seeOnly a o b = some u) : b = a ∧ o = some u := by
  unfold seeOnly at h
  split at h
  · exact ⟨by assumption, h⟩
  · cases h
theorem sr_empty {K : PySem.W.Frag} {H : Hp} : SR K ⟨[], []⟩ [] H := ⟨rfl, List.nodup_nil, fun _ h => absurd h (by simp), fun l c h => absurd h (by simp)⟩
/-- the script as it stands at the call -/
structure Script (P : Program) (w : World) (K : PySem.W.Frag) (h : Heap) (a : Addr) (ns : List Int) (o : Option HO) : Prop where
  ok : HOk P w (seeOnly a o) h
  vr : VR K ⟨[], []⟩ (seeOnly a o) (.ref a) (.scr (ns.map D.int))
  free : o ≠ none → K.lookup a = none
  frz : ∀ u, o = some u → ∃ ob xs, u = .frz ob (.lst xs) ∧ h.get? a = some ob
  seq : ∃ ob its n, h.get? a = some ob ∧ ob.data = .seq its n
theorem script_stands {P : Program} {w : World} {K : PySem.W.Frag} {h : Heap} {a : Addr} {vs : List Value} {ns : List Int} (KX : K.In h) (ha : h.get? a = some { cls := .type "list", data := .seq vs.toArray }) (hi : IntsAre vs ns) (hl : ns.length ≤ sizeLine) : ∃ o, Script P w K h a ns o := by
  have rv := vals_ints hi
  have hlen := hi.length
  cases q : K.lookup a with
  | some ob =>
    have e := KX a ob q
    rw [ha] at e
    cases e
    refine ⟨none, fun b u z => absurd (seeOnly_some z).2 (by simp), .scr (.inr fun H' => .inr ⟨_, vs.toArray, _, q, rfl, rfl, rfl, by rw [List.size_toArray]; omega, rv⟩) (VRs.map_int ns), fun z => absurd rfl z, fun u z => absurd z (by simp), ⟨_, _, _, ha, rfl⟩⟩
  | none =>
    refine ⟨some (.frz { cls := .type "list", data := .seq vs.toArray } (.lst (ns.map V.int))), fun b u z => ?_, .scr (.inl ⟨_, if_pos rfl, fun z => ?_⟩) (VRs.map_int ns), fun _ => q, fun u z => ?_, ⟨_, _, _, ha, rfl⟩⟩
    · obtain ⟨rfl, e⟩ := seeOnly_some z
      cases e
      refine ⟨ha, ?_, vs, _, rv, ha⟩
      rw [List.length_map]; exact hl
    · rcases z with z | z <;> exact nomatch z
    · cases z; exact ⟨_, _, rfl, ha⟩
theorem law_runs {P : Program} {w : World} {K : PySem.W.Frag} {mg mb : Str → Option Value} {k : Nat} {fa a : Addr} {fd : FuncData} {x : Str} {f : List D → Sto → R D} {st : Shared} {vs : List Value} {ns : List Int} {S' : Sto}
    (KX : K.In st.heap) (g1 : st.heap.Ns mainGlobals mg) (g2 : st.heap.Ns builtinsNs mb) (g3 : ∀ y : Str, y ≠ "__name__" → mb y = bootBuiltins y) (g4 : st.heap.NoLimit) (g5 : st.gens = #[])
    (ha : st.heap.get? a = some { cls := .type "list", data := .seq vs.toArray }) (hi : IntsAre vs ns) (hl : ns.length ≤ sizeLine) (hr : Room k callerA)
    (F : ∀ base : Heap, K.In base → base.Ns mainGlobals mg → FnG P w K mg base k fa fd [x] f) (hbd : ∀ (s : Shared) (u : Value), BindsTo s fd ⟨[u], []⟩ [(x, u)])
    (hf : f [.scr (ns.map D.int)] [] = .ok (.bl true) S') :
    codeAny (model P w) callerA (.call (.ref fa) ⟨[.ref a], []⟩) (fun r s' => r = .ok (.ret (.bool true)) ∧ OldK st.heap s'.heap ∧ s'.os = st.os ∧ AllBare s'.gens) st := by
  obtain ⟨o, sc⟩ := script_stands (P := P) (w := w) KX ha hi hl
  have untr : ∀ b ob es ep, st.heap.get? b = some ob → ob.data = .dict es ep → seeOnly a o b = none := fun b ob es ep e d => by
    cases q : seeOnly a o b with
    | none => rfl
    | some u =>
      obtain ⟨rfl, e2⟩ := seeOnly_some q
      obtain ⟨ob2, its, n, e3, e4⟩ := sc.seq
      rw [e] at e3; cases e3
      rw [d] at e4; cases e4
  have ns' : ∀ (b : Addr) (m : Str → Option Value), st.heap.Ns b m → (hidT st.heap (seeOnly a o)).Ns b m := fun b m ⟨ob, es, ep, e, d, r⟩ => ⟨ob, es, ep, hidT_get e (untr b ob es ep e d), d, r⟩
  have KB : K.In (hidT st.heap (seeOnly a o)) := fun b ob e => hidT_get (KX b ob e) (by
    cases q : seeOnly a o b with
    | none => rfl
    | some u =>
      obtain ⟨rfl, e2⟩ := seeOnly_some q
      rw [sc.free (by rw [e2]; exact fun z => nomatch z)] at e; cases e)
  have M : Mod K mg (hidT st.heap (seeOnly a o)) := by
    refine ⟨KB, ns' _ _ g1, ⟨mb, ns' _ _ g2, g3⟩, ?_⟩
    obtain ⟨mc, h1, h2⟩ := g4
    exact ⟨mc, ns' _ _ h1, h2⟩
  have env : Env0 P w K mg (hidT st.heap (seeOnly a o)) callerA [] st (seeOnly a o) := {
    frames := rfl
    mod := M
    bs := fun b ob e => of_hidT e
    bsz := Nat.le_of_eq (hidT_size _ _)
    funs := trivial
    frf := fun b z => absurd (show b ∈ ([] : List Addr) from z) (by simp)
    hok := sc.ok
    bare := .of_eq g5 }
  have go := (F _ KB (ns' _ _ g1)).run callerA [] st (seeOnly a o) ⟨[.ref a], []⟩ [.ref a] [.ref a] (fun v _ => v = .bl true) (fun _ _ _ => False) hr rfl env (hbd st (.ref a)) (.cons rfl .nil)
    ⟨⟨[], []⟩, [], _, sr_empty, .cons sc.vr .nil, by
      rw [hf]
      intro ρ' H' v _ _ r
      cases r; rfl⟩
  refine codeAny_mono go fun res s' h => ?_
  match res, h with
  | .error e, h =>
    obtain ⟨_, _, _, _, _, _, _, _, _, _, _, _, z⟩ := h
    exact z.elim
  | .ok .next, h => exact False.elim h
  | .ok .brk, h => exact False.elim h
  | .ok .cont, h => exact False.elim h
  | .ok (.ret u), ⟨v, H', os, bare, un, hok', rv, q⟩ =>
    have q' : v = .bl true := q
    subst q'
    have hu : u = .bool true := rv
    subst hu
    refine ⟨rfl, OldK.of_keep fun b ob e => ?_, os, bare⟩
    cases q : seeOnly a o b with
    | none => exact un.keep b ob e q (fun z => absurd (show b ∈ ([] : List Addr) from z) (by simp)) (by simp)
    | some u =>
      obtain ⟨rfl, e2⟩ := seeOnly_some q
      obtain ⟨ob2, xs, rfl, e3⟩ := sc.frz u e2
      obtain ⟨k1, _⟩ := hok' b _ (un.frzs b ob2 _ q)
      rw [e] at e3; cases e3
      exact k1
/-- the goal that k_head leaves, from the law's def -/
theorem walk_G {l : PySem.W.OpenLaw} {n k : Nat} {q : Program} {loose : List Str} {XP : (Str → Option Value) → Heap → Prop} {YP : World → Heap → Prop} {d : DefRec} {K : Params → PySem.W.Frag} {x : Str}
    (hn : l.most = some n) (hn2 : n ≤ sizeLine) (hdf : d.params.defaults = []) (hr : Room k callerA) (hY : ∀ (w : World) (h : Heap), YP w h → (K w.params).In h)
    (F : ∀ (w : World) (mg : Str → Option Value) (fa : Addr) (h : Heap), (K w.params).In h → h.Ns mainGlobals mg → mg d.name = some (.ref fa) →
      ∃ (fd : FuncData) (f : List D → Sto → R D), (∀ (s : Shared) (u : Value), BindsTo s fd ⟨[u], []⟩ [(x, u)]) ∧ (∀ base : Heap, (K w.params).In base → base.Ns mainGlobals mg → FnG l.prog w (K w.params) mg base k fa fd [x] f) ∧
        ∀ ns : List Int, ns.length ≤ n → ∃ S', f [.scr (ns.map D.int)] [] = .ok (.bl true) S') :
    PySem.W.WalkO q loose XP YP l.row.toRowW d [] (fun f vs => PySem.call f vs) := by
  refine Att.attach_call hn hdf ?_
  intro w s0 s1 mg mb fa o pm cd doc a vs ns G Y ho hd hcd hmg hobj hints hlen hg
  have KX := hY w _ Y
  obtain ⟨fd, f, hb, hF, hL⟩ := F w mg fa _ KX G.T.g hmg
  obtain ⟨S', hS⟩ := hL ns hlen
  exact law_runs KX G.T.g G.T.b G.T.builtins G.T.nolimit hg hobj hints (Nat.le_trans hlen hn2) hr hF hb hS
end
end Z

/-! Z9: the rules in their last form, for the printed derivations. -/
namespace Z
open PySem L2 PyProof.Rows
theorem un100 {k : Nat} {A : Around} (r : Room k A) : A.units + 100 < cLine := by have := r.un; omega
section
variable {X : Cx} {W : WX} {e a b c o i v : Expr} {es : List Expr} {m ma mb mc mo mi mv : ME} {ms : MA} {pos pos' apos cpos : Pos}
theorem op_addZ : OpR X (binaryOp .Add) (rAddR X.K) := op_add.or (op_add_str.or (op_catA.or op_cat))
theorem op_mulZ : OpR X (binaryOp .Mult) (rMulR X.K) := op_mul.or op_repT
theorem z_add (ha : PE X a (Em X.K W ma)) (hb : PE X b (Em X.K W mb)) : PE X (.BinOp a .Add b pos) (Em X.K W (mBin dAdd ma mb)) := z_bin op_addZ dAdd_ok ha hb
theorem z_sub (ha : PE X a (Em X.K W ma)) (hb : PE X b (Em X.K W mb)) : PE X (.BinOp a .Sub b pos) (Em X.K W (mBin dSub ma mb)) := z_bin op_sub dSub_ok ha hb
theorem z_mul (ha : PE X a (Em X.K W ma)) (hb : PE X b (Em X.K W mb)) : PE X (.BinOp a .Mult b pos) (Em X.K W (mBin dMul ma mb)) := z_bin op_mulZ dMul_ok ha hb
theorem z_mod (ha : PE X a (Em X.K W ma)) (hb : PE X b (Em X.K W mb)) : PE X (.BinOp a .Mod b pos) (Em X.K W (mBin dMod ma mb)) := z_bin op_mod dMod_ok ha hb
theorem z_fdiv (ha : PE X a (Em X.K W ma)) (hb : PE X b (Em X.K W mb)) : PE X (.BinOp a .FloorDiv b pos) (Em X.K W (mBin dFdiv ma mb)) := z_bin op_fdiv dFdiv_ok ha hb
theorem z_pow (ha : PE X a (Em X.K W ma)) (hb : PE X b (Em X.K W mb)) : PE X (.BinOp a .Pow b pos) (Em X.K W (mBin dPow ma mb)) := z_bin op_pow dPow_ok ha hb
/-- a comparison's rule with its reading -/
structure CmpZ (X : Cx) (op : CmpOp) (f : D → D → Sto → R D) : Prop where
  ex : ∃ r, OpR X (compareOp op) r ∧ OpS X.K f r
theorem c_eq (hu : X.A.units + 100 < cLine) : CmpZ X .Eq dEq := ⟨_, op_eqP hu, dDat_ok plainB_C⟩
theorem c_ne (hu : X.A.units + 100 < cLine) : CmpZ X .NotEq dNe := ⟨_, op_neP hu, dDat_ok plainB_C⟩
theorem c_lt (hu : X.A.units + 100 < cLine) : CmpZ X .Lt dLt := ⟨_, op_ltP hu, dDat_ok alikeB_C⟩
theorem c_gt (hu : X.A.units + 100 < cLine) : CmpZ X .Gt dGt := ⟨_, op_gtP hu, dDat_ok alikeB_C⟩
theorem c_le (hu : X.A.units + 100 < cLine) : CmpZ X .LtE dLe := ⟨_, op_leP hu, dDat_ok alikeB_C⟩
theorem c_ge (hu : X.A.units + 100 < cLine) : CmpZ X .GtE dGe := ⟨_, op_geP hu, dDat_ok alikeB_C⟩
theorem c_is : CmpZ X .Is (dIsN false) := ⟨_, op_isN, dIs_ok⟩
theorem c_isn : CmpZ X .IsNot (dIsN true) := ⟨_, op_notN, dIsNot_ok⟩
theorem e_cmp {op : CmpOp} {f : D → D → Sto → R D} (hc : CmpZ X op f) (ha : PE X a (Em X.K W ma)) (hb : PE X b (Em X.K W mb)) (hm : behindInMarks op b = false := by first | exact nomark _ | rfl) : PE X (.Compare a [op] [b] pos) (Em X.K W (mBin f ma mb)) := by
  obtain ⟨r, h1, h2⟩ := hc
  exact z_cmp h1 h2 ha hb hm
theorem tt_cmp {op : CmpOp} {f : D → D → Sto → R D} (hc : CmpZ X op f) (ha : PE X a (Em X.K W ma)) (hb : PE X b (Em X.K W mb)) (hm : behindInMarks op b = false := by first | exact nomark _ | rfl) : PT X (.Compare a [op] [b] pos) (Tm X.K W (mB (mBin f ma mb))) := by
  obtain ⟨r, h1, h2⟩ := hc
  exact t_cmp h1 h2 ha hb hm
theorem e_chain {op op' : CmpOp} {f g : D → D → Sto → R D} (h1 : CmpZ X op f) (h2 : CmpZ X op' g) (ha : PE X a (Em X.K W ma)) (hb : PE X b (Em X.K W mb)) (hc : PE X c (Em X.K W mc)) (hm : lastMarks [op, op'] [b, c] = false := by with_unfolding_all rfl) :
    PE X (.Compare a [op, op'] [b, c] pos) (Em X.K W (mChain f g ma mb mc)) := by
  obtain ⟨r, k1, k2⟩ := h1
  obtain ⟨r', k3, k4⟩ := h2
  exact z_chain k1 k2 k3 k4 ha hb hc (pe_chain k1 k3 ha hb hc hm)
theorem tt_chain {op op' : CmpOp} {f g : D → D → Sto → R D} (h1 : CmpZ X op f) (h2 : CmpZ X op' g) (ha : PE X a (Em X.K W ma)) (hb : PE X b (Em X.K W mb)) (hc : PE X c (Em X.K W mc)) (hm : lastMarks [op, op'] [b, c] = false := by with_unfolding_all rfl) :
    PT X (.Compare a [op, op'] [b, c] pos) (Tm X.K W (mB (mChain f g ma mb mc))) := by
  obtain ⟨r, k1, k2⟩ := h1
  obtain ⟨r', k3, k4⟩ := h2
  refine PT_imp (pt_chain k1 k3 ha hb hc hm) fun σ H Q ⟨ρ, τ, S, s, e, p⟩ => ?_
  have p' : Post X.K (fun c d H' => W c d σ H') ρ H ((ma τ S).bind fun x S1 => (mb τ S1).bind fun y S2 => (f x y S2).bind fun k S3 => (asB k S3).bind fun k S3 => if k = true then (mc τ S3).bind fun z S4 => (g y z S4).bind asB else .ok false S3) relB Q := by
    have : (mB (mChain f g ma mb mc) τ S) = ((ma τ S).bind fun x S1 => (mb τ S1).bind fun y S2 => (f x y S2).bind fun k S3 => (asB k S3).bind fun k S3 => if k = true then (mc τ S3).bind fun z S4 => (g y z S4).bind asB else .ok false S3) := by
      unfold mB mChain
      cases ma τ S with
      | ok x S1 =>
        simp only [R.bind_ok]
        cases mb τ S1 with
        | ok y S2 =>
          simp only [R.bind_ok]
          cases f x y S2 with
          | ok k S3 =>
            simp only [R.bind_ok]
            cases asB k S3 with
            | ok k2 S4 =>
              simp only [R.bind_ok]
              cases k2 with
              | true =>
                simp only [if_true]
                cases mc τ S4 <;> rfl
              | false => rfl
            | _ => rfl
          | _ => rfl
        | _ => rfl
      | _ => rfl
    rw [← this]; exact p
  refine Em_bind s e p' fun ρ1 H1 S1 v d s1 e1 x1 v1 p1 => ?_
  refine Em_bind s1 e1 p1 fun ρ2 H2 S2 w d2 s2 e2 x2 v2 p2 => ?_
  refine k2 _ ρ2 S2 H2 v w d d2 _ s2 (v1.mono x2) v2 (Post.bind p2 fun ρ3 H3 S3 z dz x3 s3 v3 p3 => ?_)
  cases v3 with
  | bl k =>
    refine ⟨k, rfl, ?_⟩
    cases k with
    | true =>
      simp only [asB, R.bind_ok, if_true] at p3 ⊢
      refine Em_bind s3 (e2.mono x3) p3 fun ρ4 H4 S4 u d4 s4 e4 x4 v4 p4 => k4 _ ρ4 S4 H4 w u d2 d4 _ s4 ((v2.mono x3).mono x4) v4 (Post.bind p4 fun ρ5 H5 S5 z5 dz5 x5 s5 v5 p5 => asB_post s5 v5 p5)
    | false =>
      simp only [asB, R.bind_ok] at p3 ⊢
      rw [if_neg (by decide)] at p3 ⊢
      exact ⟨false, rfl, p3.here s3 rfl⟩
  | _ => exact (show False from p3).elim
/-! ### names of the module -/
theorem z_gint {x : Str} {n : Int} (hm : ∃ t, X.mg x = some (.int n t)) (hg : Gl X x := by rfl) (hd : (x == ("__debug__" : Str)) = false := by decide) : PE X (.Name x pos) (Em X.K W (mC (.int n))) :=
  let ⟨t, h⟩ := hm
  z_glob (v := .int n) h ⟨t, rfl⟩ (fun _ _ => .int n) hg hd
theorem z_gstr {x : Str} {z : Str} (hm : ∃ t, X.mg x = some (.str z t)) (hg : Gl X x := by rfl) (hd : (x == ("__debug__" : Str)) = false := by decide) : PE X (.Name x pos) (Em X.K W (mC (.str z))) :=
  let ⟨t, h⟩ := hm
  z_glob (v := .str z) h ⟨t, rfl⟩ (fun _ _ => .str z) hg hd
/-- a tuple, a list of the module, at a -/
theorem z_gtup {x : Str} {q : Addr} {ds : List D} (hm : X.mg x = some (.ref q)) (hv : ∀ ρ H, VR X.K ρ H (.ref q) (.ktup ds)) (hg : Gl X x := by rfl) (hd : (x == ("__debug__" : Str)) = false := by decide) : PE X (.Name x pos) (Em X.K W (mC (.ktup ds))) :=
  z_glob (v := .ref q) hm rfl hv hg hd
theorem z_ty {x : Str} {T : String} (hm : X.mg x = none) (hv : bootBuiltins x = some (.type T)) (hg : Gl X x := by rfl) (hn : x ≠ "__name__" := by decide) (hd : (x == ("__debug__" : Str)) = false := by decide) : PE X (.Name x pos) (Em X.K W (mC (.ob (.ty T)))) :=
  z_c (pe_bltn (v := .ty T) hg hm hv rfl hn hd) fun _ _ => .ob _
/-! ### statements -/
theorem s_set {i : Nat} {x : Str} (hN : X.N.Nodup) (hi : X.N[i]? = some x) (hx : Loc X.env.scope x) (he : PE X e (Em X.K W m)) (hs : swapsWith e (some (.Name x pos')) pos.line X.env = pure false := by rfl) (hf : X.fn x = true ∨ X.env.scope.names.lookup x = some .local := by first | exact .inl rfl | exact .inr rfl | assumption) :
    PS X (.Assign [.Name x pos'] e pos) (Sm X.K W (sAsg i m)) := Z.s_set0 he (ps_set hN hi hx he hs hf)
theorem s_parA {i j : Nat} {x y : Str} {px py pt : Pos} {kt k2 pt2} (hc : X.calm = true) (hN : X.N.Nodup) (hi : X.N[i]? = some x) (hj : X.N[j]? = some y) (hij : i ≠ j)
    (hx : X.env.scope.names.lookup x = some .local) (hy : X.env.scope.names.lookup y = some .local) (ha : PA X [a, b] (Am X.K W ms))
    (hw : swappedStores [.Tuple [.Name x px, .Name y py] kt pt] (.Tuple [a, b] k2 pt2) X.env = pure (some [x, y]))
    (hs : swapsWithSole [.Tuple [.Name x px, .Name y py] kt pt] (.Tuple [a, b] k2 pt2) pos.line X.env = pure false := by rfl) :
    PS X (.Assign [.Tuple [.Name x px, .Name y py] kt pt] (.Tuple [a, b] k2 pt2) pos) (Sm X.K W (sPar [i, j] ms)) := s_par2 hij ha (ps_par hc hN hi hj hij hx hy ha hw hs)
theorem z_app (ho : PE X o (Em X.K W m)) (ha : PA X [e] (Am X.K W ms)) (hbase : attributeBase o "append" X.env (eval o X.env) = eval o X.env := by rfl)
    (hfew : ((backTo cpos (starEach [e] X.env)).all (fun x => !x.1) && (backToKw cpos (keywordEach [] X.env)).all (fun x => x.1.isSome) && decide ([e].length + ([] : List Keyword).length + (if ([] : List Keyword).isEmpty then 0 else 1) < 30)) = true := by rfl)
    (hline : (apos.endLine == cpos.line) = true := by rfl) (hs : starEach [e] X.env = (false, eval e X.env) :: starEach [] X.env := by rfl) (hplain : (backTo cpos (starEach [] X.env)).any (·.1) = false := by rfl) :
    PE X (.Call (.Attribute o "append" apos) [e] [] cpos) (Em X.K W (mMeth "list" dAppend m ms)) :=
  z_append ho ha (pe_bm PySem.F.plainAttrs_list PySem.F.slot_list_append PySem.F.type_list_append mt_append ho ha hbase hfew hline hs hplain)
end
/-! ### t[::k] of a tuple -/
def stepD {A : Type} (ds : List A) (k : Int) : List A :=
  (List.range (Builtin.Slice.slicePlaces (Builtin.Slice.sliceAdjust none none k ds.length).1 (Builtin.Slice.sliceAdjust none none k ds.length).2 k)).filterMap fun (j : Nat) => ds[((Builtin.Slice.sliceAdjust none none k ds.length).1 + (j : Int) * k).toNat]?
def mStep (m : ME) (k : Int) : ME := fun τ S => (m τ S).bind fun d S1 => match d with
  | .tup ds => guardR ((stepD ds k).length ≤ sizeLine) (.ok (.tup (stepD ds k)) S1)
  | _ => .bad
theorem VRs.pick {K : PySem.W.Frag} {ρ : Pl} {H : Hp} {vs : List V} {ds : List D} (h : VRs K ρ H vs ds) (f : Nat → Nat) : ∀ l : List Nat, VRs K ρ H (l.filterMap fun j => vs[f j]?) (l.filterMap fun j => ds[f j]?)
  | [] => .nil
  | j :: l => by
    rw [List.filterMap_cons, List.filterMap_cons]
    cases q : ds[f j]? with
    | none =>
      have : vs[f j]? = none := by
        rw [List.getElem?_eq_none_iff] at q ⊢
        rw [h.length]; exact q
      rw [this]
      exact VRs.pick h f l
    | some d =>
      obtain ⟨v, h1, h2⟩ := h.get q
      rw [h1]
      exact .cons h2 (VRs.pick h f l)
theorem VRs.step {K : PySem.W.Frag} {ρ : Pl} {H : Hp} {vs : List V} {ds : List D} (h : VRs K ρ H vs ds) (k : Int) : VRs K ρ H (stepD vs k) (stepD ds k) := by
  unfold stepD
  rw [h.length]
  exact h.pick _ _
theorem Vals.pick {vs : List V} {us : List Value} (r : Vals vs us) (f : Nat → Nat) : ∀ l : List Nat, Vals (l.filterMap fun j => vs[f j]?) (l.filterMap fun j => us[f j]?)
  | [] => .nil
  | j :: l => by
    rw [List.filterMap_cons, List.filterMap_cons]
    cases q : vs[f j]? with
    | none => rw [r.none_of q]; exact Vals.pick r f l
    | some d =>
      obtain ⟨u, h1, h2⟩ := r.get q
      rw [h1]
      exact .cons h2 (Vals.pick r f l)
theorem Vals.step {vs : List V} {us : List Value} (r : Vals vs us) (k : Int) : Vals (stepD vs k) (stepD us k) := by
  unfold stepD
  rw [r.length]
  exact Vals.pick r _ _
section
variable {X : Cx} {W : WX} {e st : Expr} {m : ME} {pos p3 : Pos}
end
end Z

/-! Z10: rules for the plain functions: what surely comes out (wpR, wpS), bounded trees, the pen and its draws. -/
namespace Z
open PySem L2

def wpR {A : Type} (o : R A) (Q : A → Sto → Prop) : Prop := match o with | .ok a S => Q a S | _ => False
@[simp] theorem wpR_ok {A : Type} (a : A) (S : Sto) (Q : A → Sto → Prop) : wpR (.ok a S) Q ↔ Q a S := Iff.rfl
@[simp] theorem wpR_bad {A : Type} (Q : A → Sto → Prop) : wpR (.bad) Q ↔ False := Iff.rfl
@[simp] theorem wpR_bind {A B : Type} (o : R A) (f : A → Sto → R B) (Q : B → Sto → Prop) : wpR (o.bind f) Q ↔ wpR o fun a S => wpR (f a S) Q := by cases o <;> exact Iff.rfl
@[simp] theorem wpR_guard {A : Type} (c : Prop) [Decidable c] (o : R A) (Q : A → Sto → Prop) : wpR (guardR c o) Q ↔ c ∧ wpR o Q := by
  unfold guardR
  split <;> simp_all [wpR]
@[simp] theorem wpR_ofO {A : Type} (o : Option A) (S : Sto) (Q : A → Sto → Prop) : wpR (ofO o S) Q ↔ ∃ a, o = some a ∧ Q a S := by cases o <;> simp [ofO, wpR]
theorem wpR_imp {A : Type} {o : R A} {Q Q' : A → Sto → Prop} (h : wpR o Q) (k : ∀ a S, Q a S → Q' a S) : wpR o Q' := by
  cases o <;> first | exact k _ _ h | exact h
theorem wpR_get {A : Type} {o : R A} {Q : A → Sto → Prop} (h : wpR o Q) : ∃ a S, o = .ok a S ∧ Q a S := by
  cases o <;> first | exact ⟨_, _, rfl, h⟩ | exact h.elim
def wpS (o : RS) (N : Tau → Sto → Prop) (T : D → Sto → Prop) : Prop := match o with | .nx τ S => N τ S | .rt d S => T d S | _ => False
@[simp] theorem wpS_nx (τ : Tau) (S : Sto) (N : Tau → Sto → Prop) (T : D → Sto → Prop) : wpS (.nx τ S) N T ↔ N τ S := Iff.rfl
@[simp] theorem wpS_rt (d : D) (S : Sto) (N : Tau → Sto → Prop) (T : D → Sto → Prop) : wpS (.rt d S) N T ↔ T d S := Iff.rfl
@[simp] theorem wpS_bad (N : Tau → Sto → Prop) (T : D → Sto → Prop) : wpS .bad N T ↔ False := Iff.rfl
@[simp] theorem wpS_lift {A : Type} (o : R A) (τ : Tau) (k : A → Sto → RS) (N : Tau → Sto → Prop) (T : D → Sto → Prop) : wpS (liftS o τ k) N T ↔ wpR o fun a S => wpS (k a S) N T := by cases o <;> exact Iff.rfl
@[simp] theorem wpS_seq (a b : MS) (τ : Tau) (S : Sto) (N : Tau → Sto → Prop) (T : D → Sto → Prop) : wpS (sSeq a b τ S) N T ↔ wpS (a τ S) (fun τ S => wpS (b τ S) N T) T := by
  unfold sSeq
  cases a τ S <;> exact Iff.rfl
section
variable {τ : Tau} {S : Sto} {N : Tau → Sto → Prop} {T : D → Sto → Prop}
@[simp] theorem x_nil : sNil τ S = .nx τ S := rfl
@[simp] theorem x_expr (m : ME) : sExpr m τ S = liftS (m τ S) τ fun _ S1 => .nx τ S1 := rfl
@[simp] theorem x_ret (m : ME) : sRet m τ S = liftS (m τ S) τ fun d S1 => .rt d S1 := rfl
@[simp] theorem x_if (t : MT) (a b : MS) : sIf t a b τ S = liftS (t τ S) τ fun k S1 => if k = true then a τ S1 else b τ S1 := rfl
@[simp] theorem wpS_ite (c : Prop) [Decidable c] (a b : RS) : wpS (if c then a else b) N T ↔ (c → wpS a N T) ∧ (¬c → wpS b N T) := by split <;> simp_all
@[simp] theorem wpR_ite {A : Type} (c : Prop) [Decidable c] (a b : R A) (Q : A → Sto → Prop) : wpR (if c then a else b) Q ↔ (c → wpR a Q) ∧ (¬c → wpR b Q) := by split <;> simp_all
@[simp] theorem x_asg (i : Nat) (m : ME) : sAsg i m τ S = liftS (m τ S) τ fun d S1 => .nx (τ.set i (some d)) S1 := rfl
@[simp] theorem x_bk : sBk τ S = .bk τ S := rfl
@[simp] theorem x_tup (is : List Nat) (m : ME) : sTup is m τ S = liftS (m τ S) τ fun d S1 => match bindT (.tp is) d τ with
  | some τ' => .nx τ' S1
  | none => .bad := rfl
@[simp] theorem x_par (is : List Nat) (ms : MA) : sPar is ms τ S = liftS (ms τ S) τ fun ds S1 => match setAll is ds τ with
  | some τ' => .nx τ' S1
  | none => .bad := rfl
@[simp] theorem x_sub (o i v : ME) : sSub o i v τ S = liftS (v τ S) τ fun y S1 => liftS (o τ S1) τ fun a S2 => liftS (i τ S2) τ fun k S3 => match a, k with
  | .loc l, .int n => match S3[l]? with
    | some (.lst ds) => match ixN ds.length n with
      | some j => .nx τ (S3.set l (.lst (ds.set j y)))
      | none => .bad
    | _ => .bad
  | _, _ => .bad := rfl
@[simp] theorem x_for (it : MI) (g : Tgt) (body : MS) : sFor it g body τ S = liftS (it τ S) τ fun i S1 => forL i.keep g body i.ds τ S1 := rfl
@[simp] theorem x_var (i : Nat) : mVar i τ S = match τ[i]? with | some (some d) => .ok d S | _ => .bad := rfl
@[simp] theorem x_c (d : D) : mC d τ S = .ok d S := rfl
@[simp] theorem x_bin (f : D → D → Sto → R D) (a b : ME) : mBin f a b τ S = (a τ S).bind fun x S1 => (b τ S1).bind fun y S2 => f x y S2 := rfl
@[simp] theorem x_B (m : ME) : mB m τ S = (m τ S).bind asB := rfl
@[simp] theorem x_asB (b : Bool) : asB (.bl b) S = .ok b S := rfl
@[simp] theorem x_T (m : ME) : mT m τ S = (m τ S).bind tru := rfl
@[simp] theorem x_tru (b : Bool) : tru (.bl b) S = .ok b S := rfl
@[simp] theorem x_chain (f g : D → D → Sto → R D) (a b c : ME) : mChain f g a b c τ S = (a τ S).bind fun x S1 => (b τ S1).bind fun y S2 => (f x y S2).bind fun k S3 => (asB k S3).bind fun k S3 =>
    if k = true then (c τ S3).bind fun z S4 => g y z S4 else .ok (.bl false) S3 := rfl
@[simp] theorem x_and (a b : MT) : mAnd a b τ S = (a τ S).bind fun k S1 => if k = true then b τ S1 else .ok false S1 := rfl
@[simp] theorem x_or (a b : MT) : mOr a b τ S = (a τ S).bind fun k S1 => if k = true then .ok true S1 else b τ S1 := rfl
@[simp] theorem x_not (a : MT) : mNot a τ S = (a τ S).bind fun k S1 => .ok (!k) S1 := rfl
@[simp] theorem x_andV (a b : ME) : mAndV a b τ S = (a τ S).bind fun x S1 => (tru x S1).bind fun k S2 => if k = true then b τ S2 else .ok x S2 := rfl
@[simp] theorem x_orV (a b : ME) : mOrV a b τ S = (a τ S).bind fun x S1 => (tru x S1).bind fun k S2 => if k = true then .ok x S2 else b τ S2 := rfl
@[simp] theorem x_notV (a : ME) : mNotV a τ S = (a τ S).bind fun x S1 => (tru x S1).bind fun k S2 => .ok (.bl (!k)) S2 := rfl
@[simp] theorem x_ifV (t : MT) (a b : ME) : mIf t a b τ S = (t τ S).bind fun k S1 => if k = true then a τ S1 else b τ S1 := rfl
@[simp] theorem x_un (f : D → Sto → R D) (a : ME) : mUn f a τ S = (a τ S).bind f := rfl
@[simp] theorem x_aNil : aNil τ S = .ok [] S := rfl
@[simp] theorem x_aCons (a : ME) (r : MA) : aCons a r τ S = (a τ S).bind fun x S1 => (r τ S1).bind fun xs S2 => .ok (x :: xs) S2 := rfl
@[simp] theorem x_mTup (r : MA) : mTup r τ S = (r τ S).bind fun xs S1 => guardR (xs.length ≤ sizeLine) (.ok (.tup xs) S1) := rfl
@[simp] theorem x_mLst (r : MA) : mLst r τ S = (r τ S).bind fun xs S1 => guardR (xs.length ≤ sizeLine) (.ok (.lst xs) S1) := rfl
@[simp] theorem x_mLstN (r : MA) : mLstN r τ S = (r τ S).bind fun xs S1 => guardR (xs.length ≤ sizeLine) (.ok (.loc S1.length) (S1 ++ [.lst xs])) := rfl
@[simp] theorem x_dct0 : mDct0 τ S = .ok (.dct [] []) S := rfl
@[simp] theorem x_call (f : List D → Sto → R D) (r : MA) : mCall f r τ S = (r τ S).bind f := rfl
@[simp] theorem x_meth (T : String) (f : D → List D → Sto → R D) (m : ME) (ms : MA) : mMeth T f m ms τ S = (m τ S).bind fun o S1 => if isTy T o S1 = true then (ms τ S1).bind fun xs S2 => f o xs S2 else .bad := rfl
@[simp] theorem x_seq (m : ME) : iSeq m τ S = (m τ S).bind fun d S1 => ofO (itemsOf d S1) S1 := rfl
@[simp] theorem x_iArgs (f : List D → Sto → Option Items) (ms : MA) : iArgs f ms τ S = (ms τ S).bind fun ds S1 => ofO (f ds S1) S1 := rfl
@[simp] theorem x_step (m : ME) (k : Int) : mStep m k τ S = (m τ S).bind fun d S1 => match d with
  | .tup ds => guardR ((stepD ds k).length ≤ sizeLine) (.ok (.tup (stepD ds k)) S1)
  | _ => .bad := rfl
@[simp] theorem x_sl (m : ME) (lo hi : Option ME) : mSl m lo hi τ S = (m τ S).bind fun d S1 => (mPart lo τ S1).bind fun l S2 => (mPart hi τ S2).bind fun h S3 => dSl d l h S3 := rfl
@[simp] theorem x_part0 : mPart none τ S = .ok none S := rfl
@[simp] theorem x_part1 (m : ME) : mPart (some m) τ S = (m τ S).bind fun d S1 => match d with
    | .int i => .ok (some i) S1
    | _ => .bad := rfl
@[simp] theorem x_slT (ds : List D) (lo hi : Option Int) : dSl (.tup ds) lo hi S = .ok (.tup (cutD ds lo hi)) S := rfl
@[simp] theorem x_slS (ds : List D) (lo hi : Option Int) : dSl (.scr ds) lo hi S = .ok (.lst (cutD ds lo hi)) S := rfl
@[simp] theorem x_slL (ds : List D) (lo hi : Option Int) : dSl (.lst ds) lo hi S = .ok (.lst (cutD ds lo hi)) S := rfl
@[simp] theorem x_comp (it : MI) (g : Tgt) (vs : List Nat) (t : MT) (e : ME) : mComp it g vs t e τ S = (it τ S).bind fun i S1 => guardR (i.ds.length ≤ sizeLine) ((lcL i.keep g vs t e i.ds τ S1).bind fun ys S2 => .ok (.lst ys) S2) := rfl
@[simp] theorem x_run (n m : Nat) (b : MS) (ds : List D) (Q : D → Sto → Prop) : wpR (runD n m b ds S) Q ↔ ds.length = n ∧ wpS (b (ds.map some ++ List.replicate (m - ds.length) none) S) (fun _ S => Q .non S) Q := by
  unfold runD
  split
  · rename_i h
    simp only [h, true_and]
    cases b (List.map some ds ++ List.replicate (m - n) none) S <;> exact Iff.rfl
  · rename_i h
    simp [h]
@[simp] theorem x_addI (i j : Int) : dAdd (.int i) (.int j) S = .ok (.int (i + j)) S := rfl
@[simp] theorem x_addT (xs ys : List D) : dAdd (.tup xs) (.tup ys) S = guardR (xs.length + ys.length ≤ sizeLine) (.ok (.tup (xs ++ ys)) S) := rfl
@[simp] theorem x_addL (xs ys : List D) : dAdd (.lst xs) (.lst ys) S = guardR (xs.length + ys.length ≤ sizeLine) (.ok (.lst (xs ++ ys)) S) := rfl
@[simp] theorem x_addS (x y : Str) : dAdd (.str x) (.str y) S = guardR (x.length + y.length ≤ sizeLine) (.ok (.str (x ++ y)) S) := rfl
@[simp] theorem x_subI (i j : Int) : dSub (.int i) (.int j) S = .ok (.int (i - j)) S := rfl
@[simp] theorem x_mulI (i j : Int) : dMul (.int i) (.int j) S = guardR ((-(2 ^ 64) < i ∧ i < 2 ^ 64) ∨ (-(2 ^ 64) < j ∧ j < 2 ^ 64)) (.ok (.int (i * j)) S) := rfl
@[simp] theorem x_mulT (xs : List D) (k : Int) : dMul (.tup xs) (.int k) S = guardR (xs.isEmpty = false ∧ 2 ≤ k ∧ k ≤ 1000 ∧ xs.length ≤ 1000) (.ok (.tup (List.replicate k.toNat xs).flatten) S) := rfl
@[simp] theorem x_modI (i j : Int) : dMod (.int i) (.int j) S = guardR (0 < j) (.ok (.int (i % j)) S) := rfl
@[simp] theorem x_fdivI (i j : Int) : dFdiv (.int i) (.int j) S = guardR (0 < j ∧ j < 1073741824) (.ok (.int (i / j)) S) := rfl
@[simp] theorem x_powI (i j : Int) : dPow (.int i) (.int j) S = guardR (0 ≤ j ∧ j ≤ 1000000 ∧ i.natAbs < 2 ^ 64) (.ok (.int (i ^ j.toNat)) S) := rfl
@[simp] theorem x_negI (i : Int) : dNeg (.int i) S = .ok (.int (-i)) S := rfl
@[simp] theorem x_lenT (ds : List D) : dLen [.tup ds] S = .ok (.int ds.length) S := rfl
@[simp] theorem x_lenL (ds : List D) : dLen [.lst ds] S = .ok (.int ds.length) S := rfl
@[simp] theorem x_lenC (ds : List D) : dLen [.scr ds] S = .ok (.int ds.length) S := rfl
@[simp] theorem x_listT (ds : List D) : dList [.tup ds] S = .ok (.lst ds) S := rfl
@[simp] theorem x_tupL (ds : List D) : dTuple [.lst ds] S = .ok (.tup ds) S := rfl
@[simp] theorem x_ixT (ds : List D) (i : Int) : dIx (.tup ds) (.int i) S = ofO (atI ds i) S := rfl
@[simp] theorem x_ixL (ds : List D) (i : Int) : dIx (.lst ds) (.int i) S = ofO (atI ds i) S := rfl
@[simp] theorem x_ixC (ds : List D) (i : Int) : dIx (.scr ds) (.int i) S = ofO (atI ds i) S := rfl
@[simp] theorem x_intI (i : Int) : dInt [.int i] S = .ok (.int i) S := rfl
@[simp] theorem x_intB (b : Bool) : dInt [.bl b] S = .ok (.int (if b then 1 else 0)) S := rfl
@[simp] theorem x_max (i j : Int) : dMax2 [.int i, .int j] S = .ok (.int (if j > i then j else i)) S := rfl
@[simp] theorem x_min (i j : Int) : dMin2 [.int i, .int j] S = .ok (.int (if j < i then j else i)) S := rfl
@[simp] theorem x_divmod (i j : Int) : dDivmod [.int i, .int j] S = guardR (0 < j ∧ j < 1073741824) (.ok (.tup [.int (i / j), .int (i % j)]) S) := rfl
@[simp] theorem x_itT (ds : List D) : itemsOf (.tup ds) S = some ⟨ds, []⟩ := rfl
@[simp] theorem x_itL (ds : List D) : itemsOf (.lst ds) S = some ⟨ds, []⟩ := rfl
@[simp] theorem x_itC (ds : List D) : itemsOf (.scr ds) S = some ⟨ds, []⟩ := rfl
@[simp] theorem x_pair {o : Option D} {P : D → Prop} : (∃ a, o = some a ∧ P a) ↔ ∃ a, o = some a ∧ P a := Iff.rfl
@[simp] theorem x_le (i j : Int) : dLe (.int i) (.int j) S = .ok (.bl (decide (i ≤ j))) S := by
  have : (!PySem.W.dataLt (.int j) (.int i)) = decide (i ≤ j) := by
    rw [PySem.W.dataLt_int]; by_cases h : i ≤ j
    · simp [h]
    · simp [h]; omega
  simp [dDat, toPy, toPyD, alikeB, PySem.W.alike, notNone, PyData.depth, this]
@[simp] theorem x_lt (i j : Int) : dLt (.int i) (.int j) S = .ok (.bl (decide (i < j))) S := by
  simp [dDat, toPy, toPyD, alikeB, PySem.W.alike, notNone, PyData.depth, PySem.W.dataLt_int]
@[simp] theorem x_gt (i j : Int) : dGt (.int i) (.int j) S = .ok (.bl (decide (j < i))) S := by
  simp [dDat, toPy, toPyD, alikeB, PySem.W.alike, notNone, PyData.depth, PySem.W.dataLt_int]
@[simp] theorem x_ge (i j : Int) : dGe (.int i) (.int j) S = .ok (.bl (decide (j ≤ i))) S := by
  have : (!PySem.W.dataLt (.int i) (.int j)) = decide (j ≤ i) := by
    rw [PySem.W.dataLt_int]; by_cases h : j ≤ i
    · simp [h]
    · simp [h]; omega
  simp [dDat, toPy, toPyD, alikeB, PySem.W.alike, notNone, PyData.depth, this]
@[simp] theorem x_eq (i j : Int) : dEq (.int i) (.int j) S = .ok (.bl (decide (i = j))) S := by
  simp [dDat, toPy, toPyD, plainB, PyData.plain, PyData.depth, PyData.eqv]
  rfl
@[simp] theorem x_ne (i j : Int) : dNe (.int i) (.int j) S = .ok (.bl (decide (i ≠ j))) S := by
  simp [dDat, toPy, toPyD, plainB, PyData.plain, PyData.depth, PyData.eqv]
  rfl
@[simp] theorem x_neS (x : Str) : dNe (.str x) (.str x) S = .ok (.bl false) S := by
  simp [dDat, toPy, toPyD, plainB, PyData.plain, PyData.depth, PyData.eqv]
@[simp] theorem x_neSS (x y : Str) : dNe (.str x) (.str y) S = .ok (.bl (!(x == y))) S := by
  simp [dDat, toPy, toPyD, plainB, PyData.plain, PyData.depth, PyData.eqv]
end
theorem atI_mem {ds : List D} {i : Int} (h0 : 0 ≤ i) (h : i < ds.length) : ∃ d, atI ds i = some d ∧ d ∈ ds ∧ ds[i.toNat]? = some d := by
  have hn : i.toNat < ds.length := by omega
  refine ⟨ds[i.toNat], ?_, List.getElem_mem hn, List.getElem?_eq_getElem hn⟩
  unfold atI ixN
  rw [if_pos h0, if_pos h]
  exact List.getElem?_eq_getElem hn
theorem cutD_mem {ds : List D} {lo hi : Option Int} {d : D} (h : d ∈ cutD ds lo hi) : d ∈ ds := List.mem_of_mem_drop (List.mem_of_mem_take h)
theorem for_wp {g : Tgt} {body : MS} {N : Tau → Sto → Prop} {T : D → Sto → Prop} (Inv : List D → Tau → Sto → Prop) (step : ∀ d ds τ S, Inv (d :: ds) τ S → ∃ τ1, bindT g d τ = some τ1 ∧ wpS (body τ1 S) (fun τ2 S2 => Inv ds τ2 S2) T)
    (fin : ∀ τ S, Inv [] τ S → N τ S) : ∀ ds τ S, Inv ds τ S → wpS (forL [] g body ds τ S) N T
  | [], τ, S, h => by
    unfold forL
    rw [keepB_nil, if_pos rfl]
    exact fin τ S h
  | d :: ds, τ, S, h => by
    unfold forL
    rw [keepB_nil, if_pos rfl]
    obtain ⟨τ1, e, w⟩ := step d ds τ S h
    rw [e]
    show wpS (match body τ1 S with | .nx τ2 S2 => forL [] g body ds τ2 S2 | .ct τ2 S2 => forL [] g body ds τ2 S2 | .bk τ2 S2 => .nx τ2 S2 | o => o) N T
    cases q : body τ1 S <;> rw [q] at w
    case nx τ2 S2 => exact for_wp Inv step fin ds τ2 S2 w
    all_goals first | exact False.elim w | exact w
theorem lc_map {g : Tgt} {vs : List Nat} {e : ME} {τ : Tau} {S : Sto} (f : D → D) : ∀ (ds : List D), (∀ d ∈ ds, ∃ τ1, bindT g d (wipeT τ vs) = some τ1 ∧ e τ1 S = .ok (f d) S) → lcL [] g vs tYesM e ds τ S = .ok (ds.map f) S
  | [], _ => by
    unfold lcL
    rw [keepB_nil, if_pos rfl]
    rfl
  | d :: ds, step => by
    unfold lcL
    rw [keepB_nil, if_pos rfl]
    obtain ⟨τ1, e1, w⟩ := step d (by simp)
    have rest := lc_map f ds (fun d hd => step d (by simp [hd]))
    rw [e1]
    show (noEx (tYesM τ1 S)).bind _ = _
    simp only [tYesM, noEx_ok, R.bind_ok, if_true, w, rest, List.map_cons]

/-! ### trees that repr can show -/
def Gd : Nat → D → Bool
  | _, .non => true
  | _, .bl _ => true
  | _, .int i => decide (i.natAbs < 10 ^ 31)
  | _, .str x => decide (x.length ≤ 8) && x.cps.toList.all fun c => decide (c < 16 ^ 8)
  | k + 1, .tup ds => decide (ds.length ≤ 16) && ds.all (Gd k)
  | k + 1, .lst ds => decide (ds.length ≤ 16) && ds.all (Gd k)
  | _, _ => false
def Wd : Nat → Nat
  | 0 => 82
  | k + 1 => 16 * (Wd k + 2) + 3
theorem Wd_pos : ∀ k, 82 ≤ Wd k
  | 0 => Nat.le_refl _
  | k + 1 => by have := Wd_pos k; unfold Wd; omega
structure PyG (k : Nat) (d : D) (p : PyData) : Prop where
  py : toPyD d = some p
  sh : p.showable = true
  nd : p.hasDict = false
  dp : p.depth ≤ k
  ln : p.shown.length ≤ Wd k
theorem Gd_all {k : Nat} : ∀ {ds : List D}, (∀ d ∈ ds, ∃ p, PyG k d p) → ∃ ps, toPyDs ds = some ps ∧ PyData.showableAll ps = true ∧ PyData.hasDictAll ps = false ∧ PyData.depthAll ps ≤ k ∧ ((PyData.shownAll ps).map (·.length)).sum + 2 * (PyData.shownAll ps).length ≤ ds.length * (Wd k + 2)
  | [], _ => ⟨[], rfl, rfl, rfl, Nat.zero_le _, by simp [PyData.shownAll]⟩
  | d :: ds, h => by
    obtain ⟨p, hp⟩ := h d (by simp)
    obtain ⟨ps, h1, h2, h3, h4, h6⟩ := Gd_all (k := k) (ds := ds) fun d hd => h d (by simp [hd])
    refine ⟨p :: ps, ?_, ?_, ?_, ?_, ?_⟩
    · simp only [toPyDs, hp.py, h1]
    · simp only [PyData.showableAll, hp.sh, h2, Bool.and_self]
    · simp only [PyData.hasDictAll, hp.nd, h3, Bool.or_self]
    · simp only [PyData.depthAll]; have := hp.dp; omega
    · simp only [PyData.shownAll, List.map_cons, List.sum_cons, List.length_cons]
      have := hp.ln
      rw [Nat.add_mul]
      omega
theorem Gd_py : ∀ (k : Nat) (d : D), Gd k d = true → ∃ p, PyG k d p := by
  have atom : ∀ (k : Nat) (d : D) (p : PyData), toPyD d = some p → p.showable = true → p.hasDict = false → p.depth = 0 → p.shown.length ≤ 82 → ∃ p, PyG k d p := fun k d p h1 h2 h3 h4 h6 => ⟨p, h1, h2, h3, by omega, by have := Wd_pos k; omega⟩
  have hInt : ∀ (k : Nat) (i : Int), i.natAbs < 10 ^ 31 → ∃ p, PyG k (.int i) p := fun k i h => by
    refine atom k _ (.int i) rfl ?_ rfl rfl ?_
    · simp only [PyData.showable, decide_eq_true_eq]
      by_cases z : i.natAbs = 0
      · rw [z]; decide
      · rw [Nat.log2_lt z]
        exact Nat.lt_of_lt_of_le h (by decide +kernel)
    · have e := int_text_length_le10 (k := 31) (by decide) h
      have e2 : (PyData.shown (.int i)).length = (toString i).length := ofString_length _
      omega
  have hStr : ∀ (k : Nat) (x : Str), x.length ≤ 8 → x.cps.toList.all (fun c => decide (c < 16 ^ 8)) = true → ∃ p, PyG k (.str x) p := fun k x h h2 => atom k _ (.str x) rfl rfl rfl rfl (by
    have e := StrLaws.reprText_len x (by simpa only [List.all_eq_true, decide_eq_true_eq] using h2)
    have e2 : x.length = x.cps.size := rfl
    show (reprText x).length ≤ 82
    omega)
  intro k
  induction k with
  | zero =>
    intro d h
    cases d with
    | non => exact atom 0 _ .none rfl rfl rfl rfl (by decide)
    | bl b => exact atom 0 _ (.bool b) rfl rfl rfl rfl (by cases b <;> decide)
    | int i => exact hInt 0 i (by simpa only [Gd, decide_eq_true_eq] using h)
    | str x =>
      simp only [Gd, Bool.and_eq_true, decide_eq_true_eq] at h
      exact hStr 0 x h.1 h.2
    | _ => simp [Gd] at h
  | succ k ih =>
    intro d h
    cases d with
    | non => exact atom _ _ .none rfl rfl rfl rfl (by decide)
    | bl b => exact atom _ _ (.bool b) rfl rfl rfl rfl (by cases b <;> decide)
    | int i => exact hInt _ i (by simpa only [Gd, decide_eq_true_eq] using h)
    | str x =>
      simp only [Gd, Bool.and_eq_true, decide_eq_true_eq] at h
      exact hStr _ x h.1 h.2
    | tup ds =>
      simp only [Gd, Bool.and_eq_true, decide_eq_true_eq, List.all_eq_true] at h
      obtain ⟨ps, h1, h2, h3, h4, h6⟩ := Gd_all (k := k) fun d hd => ih d (h.2 d hd)
      refine ⟨.tuple ps, by simp [toPyD, h1], by simpa [PyData.showable] using h2, by simpa [PyData.hasDict] using h3, by simp only [PyData.depth]; omega, ?_⟩
      have e := tupleText_len_le (PyData.shownAll ps)
      have e2 := Nat.mul_le_mul_right (Wd k + 2) h.1
      show (tupleText (PyData.shownAll ps)).length ≤ 16 * (Wd k + 2) + 3
      omega
    | lst ds =>
      simp only [Gd, Bool.and_eq_true, decide_eq_true_eq, List.all_eq_true] at h
      obtain ⟨ps, h1, h2, h3, h4, h6⟩ := Gd_all (k := k) fun d hd => ih d (h.2 d hd)
      refine ⟨.list ps, by simp [toPyD, h1], by simpa [PyData.showable] using h2, by simpa [PyData.hasDict] using h3, by simp only [PyData.depth]; omega, ?_⟩
      have e := listText_len_le (PyData.shownAll ps)
      have e2 := Nat.mul_le_mul_right (Wd k + 2) h.1
      show (listText (PyData.shownAll ps)).length ≤ 16 * (Wd k + 2) + 3
      omega
    | _ => simp [Gd] at h
theorem toPy_of {d : D} {S : Sto} {p : PyData} (h : toPyD d = some p) : toPy d S = some p := by
  cases d <;> first | exact h | simp [toPyD] at h
/-! ### isinstance -/
def isTupD : D → Bool
  | .tup _ => true
  | _ => false
def isIntD : D → Bool
  | .int _ => true
  | .bl _ => true
  | _ => false
def isBlD : D → Bool
  | .bl _ => true
  | _ => false
theorem isa_tup {d : D} {p : PyData} {S : Sto} (h : toPyD d = some p) : dIsa [d, .ob (.ty "tuple")] S = .ok (.bl (isTupD d)) S := by
  show (match toPy d S with | some p => _ | none => _) = _
  rw [toPy_of h]
  cases d <;> simp only [toPyD, Option.some.injEq, Option.map_eq_some_iff, reduceCtorEq] at h <;> first | (subst h; rfl) | (obtain ⟨_, _, rfl⟩ := h; rfl)
theorem isa_int {d : D} {p : PyData} {S : Sto} (h : toPyD d = some p) : dIsa [d, .ob (.ty "int")] S = .ok (.bl (isIntD d)) S := by
  show (match toPy d S with | some p => _ | none => _) = _
  rw [toPy_of h]
  cases d <;> simp only [toPyD, Option.some.injEq, Option.map_eq_some_iff, reduceCtorEq] at h <;> first | (subst h; rfl) | (obtain ⟨_, _, rfl⟩ := h; rfl)
theorem isa_bool {d : D} {p : PyData} {S : Sto} (h : toPyD d = some p) : dIsa [d, .ob (.ty "bool")] S = .ok (.bl (isBlD d)) S := by
  show (match toPy d S with | some p => _ | none => _) = _
  rw [toPy_of h]
  cases d <;> simp only [toPyD, Option.some.injEq, Option.map_eq_some_iff, reduceCtorEq] at h <;> first | (subst h; rfl) | (obtain ⟨_, _, rfl⟩ := h; rfl)

/-! ### the pen -/
def Pen (l : Nat) (S : Sto) : Prop := ∃ a b : Int, S[l]? = some (.lst [.int a, .int b])
theorem Pen.set {l : Nat} {S : Sto} {c d : Int} (h : Pen l S) : Pen l (S.set l (.lst [.int c, .int d])) := by
  obtain ⟨a, b, h⟩ := h
  exact ⟨c, d, List.getElem?_set_self (List.getElem?_eq_some_iff.mp h).1⟩
theorem Pen.push {l : Nat} {S : Sto} {c : C} (h : Pen l S) : Pen l (S ++ [c]) := by
  obtain ⟨a, b, h⟩ := h
  exact ⟨a, b, by rw [List.getElem?_append_left (List.getElem?_eq_some_iff.mp h).1]; exact h⟩
theorem Pen.lt {l : Nat} {S : Sto} (h : Pen l S) : l < S.length := by
  obtain ⟨a, b, h⟩ := h
  exact (List.getElem?_eq_some_iff.mp h).1
/-- the pen's cell alone may differ -/
structure Fr (l : Nat) (S S' : Sto) : Prop where
  len : S'.length = S.length
  eq : ∀ j, j ≠ l → S'[j]? = S[j]?
theorem Fr.refl (l : Nat) (S : Sto) : Fr l S S := ⟨rfl, fun _ _ => rfl⟩
theorem Fr.trans {l : Nat} {S S' S'' : Sto} (a : Fr l S S') (b : Fr l S' S'') : Fr l S S'' := ⟨b.len.trans a.len, fun j h => (b.eq j h).trans (a.eq j h)⟩
theorem Fr.set (l : Nat) (S : Sto) (c : C) : Fr l S (S.set l c) := ⟨by simp, fun j h => by rw [List.getElem?_set_ne (Ne.symm h)]⟩
theorem x_ixLoc {l : Nat} {S : Sto} {ds : List D} {i : Int} (h : S[l]? = some (.lst ds)) : dIx (.loc l) (.int i) S = ofO (atI ds i) S := by
  simp [dIx, seqR, listR, h]
end Z

/-! Z11: set(xs) of ints, sorted(set(xs)); a list made by + that will be changed. -/
namespace Z
open PySem PySem.Spec L2
section
variable {P : Program} {w : World} {A : Around} {E : Value → Shared → Prop} {s : Shared}
end
end Z

/-! Z12: sorted(set(xs)) of ints; a list made by + that will be changed. -/
namespace Z
open PySem PySem.Spec L2
/-! ### set(xs), sorted(set(xs)), of ints -/
section
variable {X : Cx}
end
theorem vrs_ints {K : PySem.W.Frag} {ρ : Pl} {H : Hp} : ∀ ns : List Int, VRs K ρ H (ns.map V.int) (ns.map D.int)
  | [] => .nil
  | n :: ns => .cons (.int n) (vrs_ints ns)
def dAddN : D → D → Sto → R D := fun x y S => match listD x S, listD y S with
  | some xs, some ys => guardR (xs.length + ys.length ≤ sizeLine) (.ok (.loc S.length) (S ++ [.lst (xs ++ ys)]))
  | _, _ => .bad
theorem dAddN_ok {K : PySem.W.Frag} : OpS K dAddN rCat := fun Wk ρ S H x y dx dy Q s rx ry h => by
  unfold dAddN at h
  split at h
  · rename_i xs ys h1 h2
    obtain ⟨hz, h⟩ := guardR_post h
    obtain ⟨a, vs, rfl, ha, hs⟩ := listD_of s rx h1
    obtain ⟨b, ws, rfl, hb, gs⟩ := listD_of s ry h2
    exact ⟨a, b, vs, ws, rfl, rfl, ha, hb, by rw [hs.length, gs.length]; exact hz, h.newLoc s (hs.append gs)⟩
  · exact h.elim
section
variable {X : Cx} {W : WX} {e a b : Expr} {m ma mb : ME} {p p2 q pos : Pos}
theorem z_addN (ha : PE X a (Em X.K W ma)) (hb : PE X b (Em X.K W mb)) : PE X (.BinOp a .Add b pos) (Em X.K W (mBin dAddN ma mb)) := z_bin op_cat dAddN_ok ha hb
end
end Z

/-! Z13: more of the plain side, for all laws. -/
namespace Z
open PySem L2
theorem wp_eq {A : Type} {o : R A} {x : A} {S : Sto} (h : wpR o fun a S' => a = x ∧ S' = S) : o = .ok x S := by
  obtain ⟨a, S', e, rfl, rfl⟩ := wpR_get h
  exact e
def Has (d : D) : Prop := ∃ p, toPyD d = some p
theorem has_all : ∀ {ds : List D} {ps : List PyData}, toPyDs ds = some ps → ∀ d ∈ ds, Has d
  | [], _, _, d, h => by cases h
  | e :: ds, ps, q, d, h => by
    simp only [toPyDs] at q
    split at q
    · rename_i p qs h1 h2
      rcases List.mem_cons.mp h with rfl | h
      · exact ⟨_, h1⟩
      · exact has_all h2 d h
    · cases q
theorem has_tup {ds : List D} (h : Has (.tup ds)) : ∀ d ∈ ds, Has d := by
  obtain ⟨p, h⟩ := h
  simp only [toPyD, Option.map_eq_some_iff] at h
  obtain ⟨ps, h, _⟩ := h
  exact has_all h
def num (d : D) (lo hi : Int) : Bool := match d with | .int i => decide (lo ≤ i) && decide (i ≤ hi) | _ => false
theorem num_int {d : D} {lo hi : Int} (h : num d lo hi = true) : ∃ i, d = .int i ∧ lo ≤ i ∧ i ≤ hi := by
  cases d <;> simp [num] at h
  exact ⟨_, rfl, h.1, h.2⟩
def iv : D → Int
  | .int i => i
  | _ => 0
theorem three {ds : List D} (h : ds.length = 3) : ∃ a b c, ds = [a, b, c] := by
  match ds, h with
  | [a, b, c], _ => exact ⟨a, b, c, rfl⟩
theorem four {ds : List D} (h : ds.length = 4) : ∃ a b c d, ds = [a, b, c, d] := by
  match ds, h with
  | [a, b, c, d], _ => exact ⟨a, b, c, d, rfl⟩
theorem at0 {a : D} {r : List D} : atI (a :: r) 0 = some a := by simp [atI, ixN]
theorem atI_nat {ds : List D} {n : Nat} (h : n < ds.length) : atI ds (n : Int) = ds[n]? := by
  unfold atI ixN
  rw [if_pos (by omega), if_pos (by omega)]
  rfl
theorem at1 {a b : D} {r : List D} : atI (a :: b :: r) 1 = some b := atI_nat (n := 1) (by simp)
theorem at2 {a b c : D} {r : List D} : atI (a :: b :: c :: r) 2 = some c := atI_nat (n := 2) (by simp)
theorem at3 {a b c d : D} {r : List D} : atI (a :: b :: c :: d :: r) 3 = some d := atI_nat (n := 3) (by simp)
theorem bools_map (f : D → Bool) : ∀ ds : List D, boolsOf (ds.map fun d => D.bl (f d)) = some (ds.map f)
  | [] => rfl
  | d :: ds => by simp [boolsOf, bools_map f ds]
theorem all_map (f : D → Bool) (ds : List D) (S : Sto) : dAll [.lst (ds.map fun d => D.bl (f d))] S = .ok (.bl (ds.all f)) S := by
  simp [dAll, listR, bools_map]
theorem zip_mem {ds es : List D} {x : D} : x ∈ List.zipWith (fun a b => D.tup [a, b]) ds es → ∃ a b, x = .tup [a, b] ∧ a ∈ ds ∧ b ∈ es := by
  induction ds generalizing es with
  | nil => intro h; simp at h
  | cons d ds ih =>
    intro h
    cases es with
    | nil => simp at h
    | cons e es =>
      rw [List.zipWith_cons_cons] at h
      rcases List.mem_cons.mp h with rfl | h
      · exact ⟨d, e, rfl, by simp, by simp⟩
      · obtain ⟨a, b, h1, h2, h3⟩ := ih h
        exact ⟨a, b, h1, by simp [h2], by simp [h3]⟩
theorem pick {ds : List D} {i : Int} {Q : D → Prop} (P : D → Prop) (h : ∀ d ∈ ds, P d) (h0 : 0 ≤ i) (h1 : i < ds.length) (k : ∀ d, P d → Q d) : ∃ a, atI ds i = some a ∧ Q a := by
  obtain ⟨d, e, m, _⟩ := atI_mem h0 h1
  exact ⟨d, e, k d (h d m)⟩
theorem hz : sizeLine = 16777216 := rfl
def GD (d : D) : Prop := Gd 4 d = true ∨ d = .dct [] []
theorem GD.has {d : D} (h : GD d) : Has d := by
  rcases h with h | rfl
  · obtain ⟨p, hp⟩ := Gd_py 4 d h
    exact ⟨p, hp.py⟩
  · exact ⟨_, rfl⟩
end Z

/-! Z14: enumerate of a tuple; xs.extend(ys). -/
namespace Z
open PySem PySem.Spec L2

section
variable {P : Program} {w : World} {A : Around} {E : Value → Shared → Prop} {s : Shared}
end
section
variable {X : Cx} {W : WX} {a : Expr} {ms : MA} {p pos : Pos}
end
section
variable {X : Cx} {W : WX} {o e : Expr} {m : ME} {ms : MA} {apos cpos : Pos}
end
end Z

/-! Z15: errors of own classes: raised, told by isinstance; defs called where an error is handled. -/
namespace Z
open PySem L2
open L2H (RoomH PinOk cxH inv_startH)

section
variable {X : Cx} {W : WX} {c m : Str} {j : Nat} {p p2 pos pos' : Pos}
end

/-! ### isinstance of the error that the context bears -/
section
variable {X : Cx} {W : WX} {a C : Addr} {oe : Obj} {i : Nat} {x t : Str} {p p1 p2 pos : Pos}
end

/-! ### a def called where an error is handled -/
section
variable {P : Program} {w : World} {K : PySem.W.Frag} {mg : Str → Option Value} {base : Heap}
end
section
variable {X : Cx} {W : WX} {a C : Addr} {oe : Obj} {f : List D → Sto → R D} {e : Expr} {es : List Expr} {mas : MA} {x : Str} {p pos : Pos}
end
end Z

/-! Z16: tables of code objects, defs that need no guards, lambdas handed to a def that tells what they raise, the law's end with tables. -/
namespace Z
open PySem L2
open L2H (RoomH PinOk cxH inv_startH roomH_of)

/-! ### tables -/
def getTab : C → Option (Addr × Str)
  | .tab P q => some (P, q)
  | _ => none
def tabsOf (S : Sto) : List (Addr × Str) := S.filterMap getTab
section
variable {K : PySem.W.Frag} {ρ : Pl} {S : Sto} {H H1 : Hp}
end

/-! ### defs that need no guards -/
structure FnK (P : Program) (w : World) (K : PySem.W.Frag) (mg : Str → Option Value) (base : Heap) (k : Nat) (g : Addr) (fd : FuncData) (ps : List Str) (f : List D → Sto → R D) : Prop where
  len : ∀ (ds : List D) (S : Sto), f ds S ≠ .bad → ds.length = ps.length
  run : ∀ (A : Around) (frs : List Env) (st : Shared) (H : Hp) (ar : Args) (us : List Value) (vs : List V) (Q : VK) (E : XK), Room k A → Env0 P w K mg base A frs st H →
    BindsTo st fd ar (ps.zip us) → Vals vs us → Sf K f vs H Q E → codeAny (model P w) A (.call (.ref g) ar) (L2.CR (L2.CX P w) frs P w H st Q E) st
section
variable {P : Program} {w : World} {K : PySem.W.Frag} {mg : Str → Option Value} {base : Heap}
theorem FnK.toG {k : Nat} {g : Addr} {fd : FuncData} {ps : List Str} {f : List D → Sto → R D} (F : FnK P w K mg base k g fd ps f) : FnG P w K mg base k g fd ps f := ⟨F.len, fun A frs st H ar us vs Q E hr _ => F.run A frs st H ar us vs Q E hr⟩
/-- a def by its body; gd: what is asked of what stands around -/
theorem run_body {x qual : Str} {st : Stmt} {g : Addr} {fd : FuncData} {N ps : List Str} {k n : Nat} {b : MS} {gd : Around → Prop} (F : Fun K x qual st g fd) (Sc : FnScope N ps (defScope st)) (hn : ps.length = n)
    (hb : ∀ (cdv : Value) (A : Around) (fs : List Env) (s : Shared) (H : Hp) (E : XK), fd.code = cdv → Room k (bodyCx P w K mg base N qual st g cdv A fs s H E).A → gd A →
      PSs (bodyCx P w K mg base N qual st g cdv A fs s H E) (defBody st) (Sm K (fun c d _ H' => E c d H') b))
    (A : Around) (fs : List Env) (s : Shared) (H : Hp) (ar : Args) (us : List Value) (vs : List V) (Q : VK) (E : XK) (hr : Room (k + 1) A) (hg : gd A) (e0 : Env0 P w K mg base A fs s H)
    (hbd : BindsTo s fd ar (ps.zip us)) (hv : Vals vs us) (hsf : Sf K (runD n N.length b) vs H Q E) : codeAny (model P w) A (.call (.ref g) ar) (L2.CR (L2.CX P w) fs P w H s Q E) s := by
  obtain ⟨oc, od, kV, doc, pm, an, cdv, ct, osl, rfl, lk, hcd⟩ := F.ex
  obtain ⟨ρ, S, ds, sr, dv, po⟩ := hsf
  unfold runD at po
  split at po
  case isFalse => exact po.elim
  rename_i hlen
  have hlv : vs.length = ps.length := by rw [dv.length, hn]; exact hlen
  have KX : K.In s.heap := e0.mod.kin.keeps fun b o e => (e0.bs b o e).1
  have lim : s.heap.NoLimit := e0.mod.nolimit.keeps fun b o e => (e0.bs b o e).1
  have hkind : ∀ y ∈ ps.zip us, (defScope st).names.lookup y.1 = some .local ∨ ((defScope st).names.lookup y.1 = some .cell ∧ ((cellsFrom (s.heap.objs.size + 1) (defScope st).names []).lookup y.1).isSome = true) := by
    rintro ⟨nm, u⟩ hy
    rcases Sc.par nm (List.of_mem_zip hy).1 with q | q
    · exact .inl q
    · exact .inr ⟨q, PySem.W.cellsFrom_some _ _ _ (.inl q)⟩
  refine codeAny_call_function hr.depth (KX _ _ lk) rfl Sc.co Sc.gen rfl (PySem.W.codeRec_of KX hcd) (hbd _ _ _ _ ?_)
  refine wpAny_newFunctionEnv_cells Sc.kind hkind ?_
  intro env he s1 ic
  subst he
  refine ⟨lim.keeps ic.toInCall.keep, codeAny_func ?_⟩
  have body := hb cdv A fs s H E rfl (hr.deeper _) hg
  have I := inv_start (CX := L2.CX P w) (E := E) Sc hr.hd e0 hlv hv ic
  refine wpAny_mono (body.run [] s1 (L2.start N vs) H { nx := fun _ H' => Q .non H', rt := Q } I ?_) ?_ fun _ _ z => z
  · refine ⟨ρ, _, S, sr, er_start dv, ?_⟩
    cases q : b (ds.map some ++ List.replicate (N.length - ds.length) none) S with
    | rt d S' => rw [q] at po; exact po
    | nx τ' S' => rw [q] at po; exact fun ρ' σ' H' e' s' _ => po ρ' H' .non e' s' .non
    | ex τ' c fs2 S' => rw [q] at po; exact fun ρ' σ' H' dd e' s' _ x' => po ρ' H' dd e' s' x'
    | bk τ' S' => rw [q] at po; exact po.elim
    | ct τ' S' => rw [q] at po; exact po.elim
    | bad => rw [q] at po; exact po.elim
  · intro fl s' hs
    have fin : ∀ {σ' : St} {H' : Hp} {v : V} {u : Value}, Inv (bodyCx P w K mg base N qual st g cdv A fs s H E) [] σ' H' s' → RelV v u → Q v H' → CE fs P w H s Q u s' :=
      fun {σ' H' v u} J rv q => ⟨v, H', J.os, J.bare, J.base, J.hok, rv, q⟩
    match fl, hs with
    | .ret u, ⟨v, σ', H', J, rv, q⟩ => exact fin J rv q
    | .next, ⟨σ', H', J, q⟩ => exact fin (v := .non) (u := .none) J rfl q
    | .brk, ⟨_, _, _, q⟩ => exact q.elim
    | .cont, ⟨_, _, _, q⟩ => exact q.elim
theorem runD_len {n N : Nat} {b : MS} {ps : List Str} (hn : ps.length = n) (ds : List D) (S : Sto) (h : runD n N b ds S ≠ .bad) : ds.length = ps.length := by
  unfold runD at h
  split at h
  · omega
  · exact absurd rfl h
theorem fnK_of {x qual : Str} {st : Stmt} {g : Addr} {fd : FuncData} {N ps : List Str} {k n : Nat} {b : MS} (F : Fun K x qual st g fd) (Sc : FnScope N ps (defScope st)) (hn : ps.length = n)
    (hb : ∀ (cdv : Value) (A : Around) (fs : List Env) (s : Shared) (H : Hp) (E : XK), Room k (bodyCx P w K mg base N qual st g cdv A fs s H E).A →
      PSs (bodyCx P w K mg base N qual st g cdv A fs s H E) (defBody st) (Sm K (fun c d _ H' => E c d H') b)) :
    FnK P w K mg base (k + 1) g fd ps (runD n N.length b) :=
  ⟨runD_len hn, fun A fs s H ar us vs Q E hr e0 hbd hv hsf => run_body (gd := fun _ => True) F Sc hn (fun cdv A fs s H E _ hr _ => hb cdv A fs s H E hr) A fs s H ar us vs Q E hr trivial e0 hbd hv hsf⟩
end
section
variable {X : Cx} {W : WX} {f : List D → Sto → R D} {e : Expr} {es : List Expr} {mas : MA} {x : Str} {p pos : Pos}
theorem run_K {pins : List (Addr × Obj)} {st : Shared} {σ : St} {H : Hp} {Q : VK} {us : List Value} {vs : List V} {k : Nat} {g : Addr} {fd : FuncData} {ps : List Str} (F : FnK X.prog X.w X.K X.mg X.base k g fd ps f) (hr : Room k X.A) (hb : Binds X.K fd ps [])
    (hx : ∀ σ, PassesAt (L2.CX X.prog X.w) X σ (fun c d H => W c d σ H)) (I : Inv X pins σ H st) (r : Vals vs us) (h : Sf X.K f vs H Q (fun c d H => W c d σ H)) : wpAny (model X.prog X.w) X.A (call (.ref g) us) (EP X pins σ Q) X.xe st := by
  have hl : (us ++ []).length = ps.length := by
    obtain ⟨ρ, S, ds, s, v, q⟩ := h
    rw [List.append_nil, ← r.length, v.length]; exact F.len ds S q.nbad
  have hb' := hb st us I.kIn hl
  rw [List.append_nil] at hb'
  refine wpAny_call (codeAny_mono (F.run X.A X.stack st H _ us vs Q _ hr I.env0 hb' r h) ?_)
  intro res st' q
  match res, q with
  | .error e, q => exact hx σ pins H st e st' I q
  | .ok (.ret u), q => exact I.after q
  | .ok .next, q => exact False.elim q
  | .ok .brk, q => exact False.elim q
  | .ok .cont, q => exact False.elim q
theorem z_callK {k : Nat} {g : Addr} {fd : FuncData} {ps : List Str} (F : FnK X.prog X.w X.K X.mg X.base k g fd ps f) (hr : Room k X.A) (hm : X.mg x = some (.ref g)) (hk : PySem.W.keepIn X.K (.ref g) = true) (hb : Binds X.K fd ps [])
    (hx : ∀ σ, PassesAt (L2.CX X.prog X.w) X σ (fun c d H => W c d σ H)) (ha : PA X (e :: es) (Am X.K W mas)) (hg : Gl X x := by rfl) (hdb : (x == ("__debug__" : Str)) = false := by decide)
    (he : starEach (e :: es) X.env = (false, eval e X.env) :: starEach es X.env := by rfl) (hpl : (backTo pos (starEach es X.env)).any (·.1) = false := by rfl) : PE X (.Call (.Name x p) (e :: es) [] pos) (Em X.K W (mCall f mas)) := by
  constructor
  intro pins st σ H Q I h
  obtain ⟨ρ, τ, S, s, er, po⟩ := h
  have args := ha.run pos pins st σ H (fun vs H1 => Sf X.K f vs H1 Q (fun c d H => W c d σ H)) I (Am_bind s er po fun ρ1 H1 S1 vs ds s1 e1 x1 v1 p1 => ⟨ρ1, S1, ds, s1, v1, p1⟩)
  apply wpAny_Call_Name_kw
  apply ld_glob I hg hm _ hdb
  apply PySem.W.callWith_K (h₀ := X.base) I.ok.mod.kin hk _ he hpl
  apply thn args
  rintro us s1 ⟨vs, H1, I1, r, q⟩
  exact ⟨I1.kIn, run_K F hr hb hx I1 r q⟩
end

/-! ### x(lambda: body), x tells what the body gives or raises -/
end Z

/-! Z17: a lambda called by a def that tells what it raises; the law's end with tables. -/
namespace Z
open PySem L2
open L2H (RoomH PinOk cxH inv_startH roomH_of)

section
variable {X : Cx} {W : WX}
end

/-! ### the law's end, with tables -/
section
open PySem.Spec PyProof.Rows
end
end Z

/-! Z18: count and index of truths; len(set(xs)); products of tuples and lists; max, min of a list; what is never read. -/
namespace Z
open PySem PySem.Spec L2

/-! ### count, index -/
section
variable {X : Cx}
end

section
variable {X : Cx} {W : WX} {o e : Expr} {m : ME} {ms : MA} {apos cpos : Pos}
end
/-! ### len(set(xs)) -/
section
variable {X : Cx} {W : WX} {e : Expr} {m : ME} {p p2 q pos : Pos}
end

/-! ### max(xs), min(xs) -/
/-! ### products -/
/-! ### what is never read; room where an error is handled -/
end Z

/-! Z19: what the end of a law with errors and lambdas asks. -/
namespace Z
open PySem L2
end Z

/-! Z20: the pen where tables stand in the store. -/
namespace Z
open PySem L2
/-- the tables of the store, all along -/
class TabsC where
  Ts : List (Addr × Str)
theorem tabs_app {S : Sto} {c : C} (h : getTab c = none := by rfl) : tabsOf (S ++ [c]) = tabsOf S := by
  unfold tabsOf
  rw [List.filterMap_append]
  simp [h]
theorem tabs_set : ∀ {S : Sto} {l : Nat} {c c0 : C}, S[l]? = some c0 → getTab c0 = none → getTab c = none → tabsOf (S.set l c) = tabsOf S
  | [], _, _, _, h, _, _ => by simp at h
  | d :: r, 0, c, c0, h, h0, h1 => by
    simp at h
    subst h
    simp [tabsOf, List.filterMap_cons, h0, h1]
  | d :: r, l + 1, c, c0, h, h0, h1 => by
    have ih := tabs_set (S := r) (l := l) (c := c) (c0 := c0) (by simpa using h) h0 h1
    simp only [tabsOf, List.set_cons_succ, List.filterMap_cons] at ih ⊢
    rw [ih]
theorem tabs_ext : ∀ {S S' : Sto}, S'.length = S.length → (∀ (l : Nat) (c : C), S[l]? = some c → ∃ c', S'[l]? = some c' ∧ getTab c' = getTab c) → tabsOf S' = tabsOf S
  | [], S', h, _ => by
    have : S' = [] := List.eq_nil_of_length_eq_zero (by simpa using h)
    rw [this]
  | c :: r, S', h, k => by
    cases S' with
    | nil => simp at h
    | cons c' r' =>
      obtain ⟨x, e1, e2⟩ := k 0 c (by simp)
      simp at e1; subst e1
      have ih := tabs_ext (S := r) (S' := r') (by simpa using h) fun l d e => by
        obtain ⟨y, y1, y2⟩ := k (l + 1) d (by simpa using e)
        exact ⟨y, by simpa using y1, y2⟩
      simp only [tabsOf, List.filterMap_cons, e2] at ih ⊢
      rw [ih]
section
variable [TabsC]
def PenT (l : Nat) (S : Sto) : Prop := Pen l S ∧ tabsOf S = TabsC.Ts
theorem PenT.fr {l : Nat} {S S' : Sto} (h : PenT l S) (p : Pen l S') (f : Fr l S S') : PenT l S' := ⟨p, (tabs_ext f.len fun j c e => by
  by_cases hj : j = l
  · subst hj
    obtain ⟨a, b, e1⟩ := h.1
    obtain ⟨a', b', e2⟩ := p
    rw [e] at e1; cases e1
    exact ⟨_, e2, rfl⟩
  · exact ⟨c, (f.eq j hj).trans e, rfl⟩).trans h.2⟩
theorem PenT.push {l : Nat} {S : Sto} {c : C} (h : PenT l S) (hc : getTab c = none := by rfl) : PenT l (S ++ [c]) := ⟨h.1.push, (tabs_app hc).trans h.2⟩
theorem PenT.lt {l : Nat} {S : Sto} (h : PenT l S) : l < S.length := h.1.lt
/-- another list of the store changes -/
theorem PenT.put {l k : Nat} {S : Sto} {ds es : List D} (h : PenT l S) (hk : S[k]? = some (.lst ds)) (hn : k ≠ l) : PenT l (S.set k (.lst es)) := by
  refine ⟨?_, (tabs_set hk rfl rfl).trans h.2⟩
  obtain ⟨a, b, e⟩ := h.1
  exact ⟨a, b, by rw [List.getElem?_set_ne hn]; exact e⟩
end
end Z

/-! Z21: instances of own classes: made, their fields read and stored, their methods called. -/
namespace Z
open PySem L2

def putD (f : Str) (d : D) : List (Str × D) → List (Str × D)
  | [] => [(f, d)]
  | (g, x) :: r => if g = f then (g, d) :: r else (g, x) :: putD f d r
section
variable {P : V → D → Prop}
theorem KR.look {f : Str} : ∀ {ws : List (Str × V)} {fs : List (Str × D)}, KR P ws fs → (fs.lookup f = none → ws.lookup f = none) ∧ ∀ d, fs.lookup f = some d → ∃ v, ws.lookup f = some v ∧ P v d
  | _, _, .nil => ⟨fun _ => rfl, fun d h => nomatch h⟩
  | _, _, .cons (k := k) h hs => by
    have ih := KR.look (f := f) hs
    simp only [List.lookup]
    cases q : f == k with
    | true => exact ⟨fun z => (nomatch z), fun d z => by cases z; exact ⟨_, rfl, h⟩⟩
    | false => exact ih
theorem KR.put {f : Str} {v : V} {d : D} (h0 : P v d) : ∀ {ws : List (Str × V)} {fs : List (Str × D)}, KR P ws fs → KR P (putF f v ws) (putD f d fs)
  | _, _, .nil => .cons h0 .nil
  | _, _, .cons (k := k) h hs => by
    unfold putF putD
    by_cases q : k = f
    · rw [if_pos q, if_pos q]; exact .cons h0 hs
    · rw [if_neg q, if_neg q]; exact .cons h (KR.put h0 hs)
end
/-- what is to be known of the class c for its field f -/
structure FldC (K : PySem.W.Frag) (c f : Str) (C : Addr) : Prop where
  at_ : clsAt K c = .ref C
  cls : Cls K C
  no : NoAttr K C f
section
variable {X : Cx} {W : WX} {o e v : Expr} {es : List Expr} {mo mv : ME} {mas : MA} {c f m : Str} {C : Addr} {pos pos' apos : Pos}
/-- o.f -/
def mFld (c f : Str) (m : ME) : ME := fun τ S => (m τ S).bind fun d S1 => match d with
  | .loc l => (match S1[l]? with
    | some (.ins c' fs) => if c' = c then ofO (fs.lookup f) S1 else .bad
    | _ => .bad)
  | _ => .bad
theorem z_fld (F : FldC X.K c f C) (ho : PE X o (Em X.K W mo)) (hb : attributeBase o f X.env (eval o X.env) = eval o X.env := by rfl) : PE X (.Attribute o f pos) (Em X.K W (mFld c f mo)) := PE_imp (pe_fld ho hb) fun σ H Q ⟨ρ, τ, S, s, r, p⟩ => by
  refine Em_bind s r p fun ρ1 H1 S1 v d s1 r1 x1 v1 p1 => ?_
  split at p1
  · rename_i l
    split at p1
    · rename_i c' fs e
      split at p1
      · rename_i ec
        subst ec
        cases v1 with
        | @loc a _ hl =>
          obtain ⟨C', dx, ws, hc, ha, hk⟩ := s1.at hl e
          rw [F.at_] at hc; cases hc
          obtain ⟨d, hd, p2⟩ := ofO_post p1
          obtain ⟨y, hy, ry⟩ := (hk.look (f := f)).2 d hd
          exact ⟨a, C, dx, ws, y, rfl, ha, F.cls, F.no, hy, p2.here s1 ry⟩
      · exact p1.elim
    · exact p1.elim
  · exact p1.elim
/-- o.f = v -/
def sFldA (c f : Str) (o v : ME) : MS := fun τ S => liftS (v τ S) τ fun y S1 => liftS (o τ S1) τ fun d S2 => match d with
  | .loc l => (match S2[l]? with
    | some (.ins c' fs) => if c' = c ∧ fs.length < 1000 then .nx τ (S2.set l (.ins c (putD f y fs))) else .bad
    | _ => .bad)
  | _ => .bad
theorem s_fld (F : FldC X.K c f C) (ho : PE X o (Em X.K W mo)) (hv : PE X v (Em X.K W mv)) (hs : swapsWith v (some (.Attribute o f pos')) pos.line X.env = pure false := by rfl) : PS X (.Assign [.Attribute o f pos'] v pos) (Sm X.K W (sFldA c f mo mv)) := PS_imp (ps_fld ho hv hs) fun D σ H ⟨ρ, τ, S, s, r, p⟩ => by
  refine Em_S (k := fun _ _ => .bad) s r p fun ρ1 H1 S1 y dy s1 r1 e1 v1 p1 => ?_
  refine Em_S (k := fun _ _ => .bad) s1 r1 p1 fun ρ2 H2 S2 a da s2 r2 e2 v2 p2 => ?_
  split at p2
  · rename_i l
    split at p2
    · rename_i c' fs e
      split at p2
      · rename_i ec
        obtain ⟨ec, hl1⟩ := ec
        subst ec
        cases v2 with
        | @loc b _ hl =>
          obtain ⟨C', dx, ws, hc, ha, hk⟩ := s2.at hl e
          rw [F.at_] at hc; cases hc
          refine ⟨b, C, dx, ws, rfl, ha, F.cls, F.no, by rw [hk.length]; exact hl1, ?_⟩
          have x : Ext ρ2 H2 ρ2 (upd H2 b (.ins C dx (putF f y ws))) := Ext.set hl (.of ha)
          exact p2 ρ2 σ _ x (s2.set hl ⟨C, dx, _, F.at_, upd_same, ((hk.put (v1.mono e2)).mono fun _ _ h => VR.mono x h)⟩) (r2.mono x)
      · exact p2.elim
    · exact p2.elim
  · exact p2.elim
/-- a def as the library's promise -/
theorem FnK.ok {P : Program} {w : World} {K : PySem.W.Frag} {mg : Str → Option Value} {base : Heap} {k : Nat} {g : Addr} {fd : FuncData} {ps : List Str} {h : List D → Sto → R D} (F : FnK P w K mg base k g fd ps h) : FnOk P w K mg base (L2.CX P w) k g fd ps (Sf K h) :=
  ⟨fun vs H Q E ⟨ρ, S, ds, s, v, q⟩ => by rw [v.length]; exact F.len ds S q.nbad, F.run⟩
theorem pass_no : Passes (L2.CX X.prog X.w) X (fun _ _ _ => False) := fun _ _ _ _ _ _ _ h => by
  obtain ⟨_, _, _, _, _, _, _, _, _, _, _, _, z⟩ := h
  exact z.elim
/-- o.m(e, ..); what it would let out isn't let out -/
def mMethO (c m : Str) (h : List D → Sto → R D) (o : ME) (r : MA) : ME := fun τ S => (o τ S).bind fun d S1 => match d with
  | .loc l => (match S1[l]? with
    | some (.ins c' fs) => if c' = c ∧ fs.lookup m = none then (r τ S1).bind fun ds S2 => noEx (h (.loc l :: ds) S2) else .bad
    | _ => .bad)
  | _ => .bad
theorem z_methO {k : Nat} {g : Addr} {fd : FuncData} {ps : List Str} {h : List D → Sto → R D} {pl : Sem Bool} (hat : clsAt X.K c = .ref C) (hcl : Cls X.K C) (hm : Meth X.K C m g) (F : FnK X.prog X.w X.K X.mg X.base k g fd ps h) (hr : Room k X.A) (hb : Binds X.K fd ps [])
    (ho : PE X o (Em X.K W mo)) (ha : PA X (e :: es) (Am X.K W mas))
    (hst : starEach (e :: es) X.env = (false, eval e X.env) :: starEach es X.env := by rfl) (hpl : (backTo pos (starEach es X.env)).any (·.1) = false := by rfl)
    (ht : eval (.Call (.Attribute o m apos) (e :: es) [] pos) X.env = (do
      let ov ← eval o X.env
      standAt apos.atName
      let (f, first) ← holding [ov] (getMethod ov m pl)
      callWith pos f first (backTo pos (starEach (e :: es) X.env)) (backToKw pos (keywordEach [] X.env))) := by rfl) :
    PE X (.Call (.Attribute o m apos) (e :: es) [] pos) (Em X.K W (mMethO c m h mo mas)) :=
  PE_imp (pe_meth (pl := pl) ho hcl hm F.ok hr hb .nil pass_no ha hst hpl ht) fun σ H Q ⟨ρ, τ, S, s, r, p⟩ => by
    refine Em_bind s r p fun ρ1 H1 S1 v d s1 r1 x1 v1 p1 => ?_
    split at p1
    · rename_i l
      split at p1
      · rename_i c' fs e'
        split at p1
        · rename_i ec
          obtain ⟨ec, hn⟩ := ec
          subst ec
          cases v1 with
          | @loc a _ hl =>
            obtain ⟨C', dx, ws, hc, hH, hk⟩ := s1.at hl e'
            rw [hat] at hc; cases hc
            refine ⟨a, dx, ws, rfl, hH, (hk.look (f := m)).1 hn, ?_⟩
            refine Am_bind s1 r1 p1 fun ρ2 H2 S2 vs ds s2 r2 x2 v2 p2 => ?_
            exact ⟨ρ2, S2, .loc l :: ds, s2, .cons (.loc (x2.get hl)) (by rw [List.append_nil]; exact v2), noEx_post p2⟩
        · exact p1.elim
      · exact p1.elim
    · exact p1.elim
/-- C(e, ..) by __init__ -/
def mMake (c : Str) (h : List D → Sto → R D) (r : MA) : ME := fun τ S => (r τ S).bind fun ds S1 => (noEx (h (.loc S1.length :: ds) (S1 ++ [.ins c []]))).bind fun d S2 => match d with
  | .non => .ok (.loc S1.length) S2
  | _ => .bad
theorem z_make {k : Nat} {g : Addr} {fd : FuncData} {ps : List Str} {h : List D → Sto → R D} {p : Pos} {x : Str} (hat : clsAt X.K c = .ref C) (M : Mk X.K C g) (F : FnK X.prog X.w X.K X.mg X.base k g fd ps h) (hr : Room (k + 1) X.A) (hm : X.mg x = some (.ref C)) (hb : Binds X.K fd ps []) (ha : PA X (e :: es) (Am X.K W mas)) (hg : Gl X x := by rfl)
    (hdb : (x == ("__debug__" : Str)) = false := by decide) (he : starEach (e :: es) X.env = (false, eval e X.env) :: starEach es X.env := by rfl) (hpl : (backTo pos (starEach es X.env)).any (·.1) = false := by rfl) :
    PE X (.Call (.Name x p) (e :: es) [] pos) (Em X.K W (mMake c h mas)) :=
  PE_imp (pe_make M F.ok hr hg hm hb .nil pass_no ha hdb he hpl) fun σ H Q ⟨ρ, τ, S, s, r, p⟩ => by
    refine Am_bind s r p fun ρ1 H1 S1 vs ds s1 r1 x1 v1 p1 => ?_
    intro y dx hy hdx hne
    have xa : Ext ρ1 H1 ρ1 (upd H1 dx (.own y)) := Ext.fresh hdx
    have sa : SR X.K ρ1 S1 (upd H1 dx (.own y)) := s1.laid hdx
    have hy' : upd H1 dx (.own y) y = none := by rw [upd_ne (Ne.symm hne)]; exact hy
    have xb : Ext ρ1 (upd H1 dx (.own y)) (ρ1.push y) (upd (upd H1 dx (.own y)) y (.ins C dx [])) := Ext.push hy'
    have sb : SR X.K (ρ1.push y) (S1 ++ [.ins c []]) (upd (upd H1 dx (.own y)) y (.ins C dx [])) := sa.push hy' ⟨C, dx, [], hat, upd_same, .nil⟩
    have xc := xa.trans xb
    refine ⟨ρ1.push y, S1 ++ [.ins c []], .loc S1.length :: ds, sb, .cons (.loc (Pl.push_get sa)) (by rw [List.append_nil]; exact v1.mono xc), ?_⟩
    have p2 := Post.ext xc p1
    cases q : h (.loc S1.length :: ds) (S1 ++ [.ins c []]) with
    | bad => rw [q] at p2; exact p2
    | ex c2 fs2 S2 => rw [q] at p2; exact p2.elim
    | ok d S2 =>
      rw [q] at p2
      intro ρ3 H3 v e3 s3 v3
      simp only [noEx_ok, R.bind_ok] at p2
      split at p2
      · cases v3
        refine ⟨rfl, ?_⟩
        exact p2 ρ3 H3 _ e3 s3 (.loc (e3.get (Pl.push_get sa)))
      · exact p2.elim
end
section
variable {P : Program} {w : World} {K : PySem.W.Frag} {mg : Str → Option Value} {base : Heap}
end
end Z

/-! Z22: sum(xs), tuple(range(a, b)); the defs of a class; what the end asks of a class. -/
namespace Z
open PySem L2
def rgI (i j : Int) : List Int := (List.range (j - i).toNat).map fun (k : Nat) => i + (k : Int)
section
variable {X : Cx} {W : WX} {a b : Expr} {ma mb : ME} {p p2 pos pos2 : Pos}
end
/-- the i-th statement of a class's body -/
def clsDef (st : Stmt) (i : Nat) : Stmt := (match st with
  | .ClassDef (body := b) .. => b
  | _ => []).getD i (.Pass ⟨0, 0, 0, 0⟩)
/-- a class's facts, of its address -/
theorem clsAt_of {K : PySem.W.Frag} {c : Str} {v : Value} (e : PySem.W.nsIn K mainGlobals c = some (some v)) : clsAt K c = v := by
  unfold clsAt; rw [e]
end Z

/-! Z23: a set of rows: tuples of whole numbers and texts. The search in its table. -/
namespace Z
open PySem L2 PySem.Spec PyProof.Rows
/-- what a row holds -/
def AtomV (v : Value) : Prop := (∃ i t, v = .int i t) ∨ ∃ x t, v = .str x t
theorem atom_own {v : Value} (h : AtomV v) (n : Nat) : ofAClassStatement n v = pure false := by
  rcases h with ⟨i, t, rfl⟩ | ⟨x, t, rfl⟩ <;> (cases n <;> rfl)
theorem atom_by {v : Value} (h : AtomV v) (n : Nat) : ∃ b, hashByValue n v = pure b := by
  rcases h with ⟨i, t, rfl⟩ | ⟨x, t, rfl⟩ <;> (cases n <;> exact ⟨_, rfl⟩)
section
variable {P : Program} {w : World} {A : Around} {E : Value → Shared → Prop} {s : Shared}
/-- at b stands the row k -/
structure RowAt (P : Program) (w : World) (h : Heap) (k : NestedKey) (b : Addr) : Prop where
  key : (nestedKind P w).is h k b
  flat : ∃ (o : Obj) (vs : Array Value) (n : Nat), h.get? b = some o ∧ o.cls = .type "tuple" ∧ o.data = .seq vs n ∧ ∀ v ∈ vs.toList, AtomV v
abbrev rh (w : World) (k : NestedKey) : Int := NestedKey.hash w k
/-- a walk over atoms that always goes on -/
theorem atoms_loop {β : Type} {l : List Value} {f : Value → (Option Bool × β) → Sem (ForInStep (Option Bool × β))} {b0 : β} {Q : (Option Bool × β) → Shared → Prop} (hl : ∀ v ∈ l, AtomV v)
    (hf : ∀ v, AtomV v → f v (none, b0) = pure (.yield (none, b0))) (h : Q (none, b0) s) : wpAny (model P w) A (forIn l (none, b0) f) Q E s := by
  induction l with
  | nil => rw [List.forIn_nil]; exact wpAny_pure h
  | cons v r ih =>
    rw [List.forIn_cons, hf v (hl v (by simp))]
    exact wpAny_bind (wpAny_pure (ih fun u hu => hl u (by simp [hu])))
theorem row_own {k : NestedKey} {b : Addr} {Q : Bool → Shared → Prop} (hk : RowAt P w s.heap k b) (h : Q false s) : wpAny (model P w) A (ofAClassStatement 8 (.ref b)) Q E s := by
  obtain ⟨o, vs, n, ho, hc, hd, ha⟩ := hk.flat
  unfold ofAClassStatement
  refine wpAny_bind (wpAny_typeOf (T := "tuple") ⟨o, ho, hc⟩ ?_)
  dsimp only
  simp only [show (("tuple" : String) == "tuple") = true by decide, if_true, Bool.not_true, Bool.false_eq_true, if_false]
  show wpAny _ _ (seqItems? (.ref b) >>= _) _ _ s
  refine wpAny_bind (wpAny_seqItems ho hd ?_)
  dsimp only
  refine wpAny_bind ?_
  show wpAny _ _ (forIn vs _ _) _ _ s
  rw [← Array.forIn_toList]
  refine atoms_loop ha (fun v hv => ?_) (wpAny_pure h)
  rw [atom_own hv]
  rfl
theorem row_by {k : NestedKey} {b : Addr} {Q : Bool → Shared → Prop} (hk : RowAt P w s.heap k b) (h : ∀ c, Q c s) : wpAny (model P w) A (hashByValue 8 (.ref b)) Q E s := by
  obtain ⟨o, vs, n, ho, hc, hd, ha⟩ := hk.flat
  unfold hashByValue
  refine wpAny_bind (wpAny_specialOf (T := "tuple") ⟨o, ho, hc⟩ F.slot_tuple_hash.lookup ?_)
  show wpAny _ _ (seqItems? (.ref b) >>= _) _ _ s
  refine wpAny_bind (wpAny_seqItems ho hd (wpAny_bind ?_))
  show wpAny _ _ (forIn vs _ _) _ _ s
  rw [← Array.forIn_toList]
  refine wpAny_forIn_list _ (fun rest _ s' => s' = s ∧ ∀ v ∈ rest, AtomV v) _ (fun v rest r s' ⟨e, al⟩ => ?_) (fun r s' ⟨e, _⟩ => ?_) _ _ ⟨rfl, ha⟩
  · obtain ⟨c, ec⟩ := atom_by (al v (by simp)) 7
    rw [ec]
    refine wpAny_bind (wpAny_pure ?_)
    cases c with
    | true => exact wpAny_pure ⟨e, fun u hu => al u (by simp [hu])⟩
    | false =>
      subst e
      exact wpAny_pure (wpAny_pure (h false))
  · subst e
    obtain ⟨r1, r2⟩ := r
    cases r1 <;> exact wpAny_pure (h _)
/-- a search among rows tells nothing of the table -/
theorem row_seen {k : NestedKey} {b : Addr} {Q : Bool → Shared → Prop} (hk : RowAt P w s.heap k b) {ys : List Value} (hy : ∀ y ∈ ys, ∃ k' c, y = Value.ref c ∧ RowAt P w s.heap k' c) (h : Q false s) : wpAny (model P w) A (searchCouldBeSeen (.ref b) ys) Q E s := by
  unfold searchCouldBeSeen
  refine wpAny_bind (wpAny_forIn_list _ (fun rest r s' => r.1 = none ∧ s' = s ∧ ∀ y ∈ rest, y ∈ ys) _ (fun v rest r s' ⟨hr, hs, hall⟩ => ?_) (fun r s' ⟨hr, hs, _⟩ => ?_) _ _ ⟨rfl, rfl, fun y hy' => hy'⟩)
  · subst hs
    obtain ⟨k', c, rfl, hc⟩ := hy v (hall v (by simp))
    have more : ∀ y ∈ rest, y ∈ ys := fun u hu => hall u (by simp [hu])
    dsimp only
    by_cases hv : (b == c || (carriedByValue (.ref b) && carriedByValue (.ref c))) = true
    · exact wp_if_pos hv (wpAny_pure ⟨rfl, rfl, more⟩)
    · refine wp_if_neg hv (wpAny_bind ((nestedKind P w).quiet hk.key ?_))
      simp only [Bool.not_true, Bool.false_eq_true, if_false]
      refine wpAny_bind ((nestedKind P w).quiet hc.key ?_)
      simp only [Bool.not_true, Bool.false_eq_true, if_false]
      refine wpAny_bind (row_own hk ?_)
      simp only [Bool.false_eq_true, if_false]
      refine wpAny_bind (row_own hc ?_)
      simp only [Bool.false_eq_true, if_false]
      exact wpAny_pure ⟨rfl, rfl, more⟩
  · subst hs
    obtain ⟨r1, r2⟩ := r
    simp only at hr
    subst hr
    exact wpAny_pure h
end
end Z

/-! Z24: a row is looked for in the set's table, and put into it. -/
namespace Z
open PySem L2 PySem.Spec PyProof.Rows
abbrev Rw := Addr × NestedKey
def entriesN (w : World) (L : List Rw) : List (Int × Value) := L.map fun p => (rh w p.2, Value.ref p.1)
abbrev hashesN (w : World) (L : List Rw) : List Int := L.map fun p => rh w p.2
abbrev keysN (L : List Rw) : List NestedKey := L.map fun p => p.2
/-- at a stands a set of the rows L, in the order of its table -/
structure RowSet (P : Program) (w : World) (h : Heap) (a : Addr) (L : List Rw) (es : Array (Int × Value)) (ep : Nat) (t : SetTable) : Prop where
  obj : ∃ o, h.get? a = some o ∧ o.ExactSet ∧ o.data = .set es ep t
  ents : es.toList = entriesN w L
  tabOk : TabOk t (hashesN w L)
  once : (keysN L).Nodup
  row : ∀ p ∈ L, RowAt P w h p.2 p.1
  ledOr : w.params.followText "set-order" = true ∨ t.led = true
  space : L.length * 5 < t.mask * 3
  below : L.length < 64
section
variable {P : Program} {w : World} {A : Around} {E : Value → Shared → Prop} {s : Shared} {a : Addr} {L : List Rw} {es : Array (Int × Value)} {ep : Nat} {t : SetTable}
theorem ents_size (h : es.toList = entriesN w L) : es.size = L.length := by
  rw [← Array.length_toList, h, entriesN, List.length_map]
theorem ents_at (h : es.toList = entriesN w L) {i : Nat} {p : Rw} (hp : L[i]? = some p) : es[i]? = some (rh w p.2, Value.ref p.1) := by
  rw [← Array.getElem?_toList, h, entriesN, List.getElem?_map, hp, Option.map_some]
theorem fits_rows {hs : List Int} (T : TabOk t hs) (hn : es.size = hs.length) (h : hs.length ≤ t.mask) : t.fits es.size = true := by
  have h2 : t.dummies.size = 0 := by rw [T.dm]; rfl
  have h3 : t.place.size = es.size := T.sz.trans hn.symm
  have h4 : t.place.size + t.dummies.size ≤ t.mask := by rw [h2, h3, hn]; exact h
  unfold SetTable.fits SetTable.fill
  rw [Bool.and_eq_true]
  exact ⟨beq_iff_eq.mpr h3, decide_eq_true h4⟩
theorem RowSet.fit (R : RowSet P w s.heap a L es ep t) : t.fits es.size = true := fits_rows R.tabOk (by rw [ents_size R.ents]; simp) (by have := R.space; simp; omega)
theorem RowSet.stays (R : RowSet P w s.heap a L es ep t) : ¬ t.gaveWay = true := by
  simp [SetTable.gaveWay, mask_odd R.tabOk.mok]
/-- the way of a hash -/
abbrev stepN (t : SetTable) (h : Int) (c : Nat) : SetTable.Probe := nth t.mask (runAt t.mask (SetTable.bits h % (t.mask + 1)) (SetTable.bits h)) c
theorem stepN_clean (t : SetTable) (h : Int) (c : Nat) : (stepN t h c).dummy = none := by
  have all : ∀ (n : Nat) (p : SetTable.Probe), p.dummy = none → (nth t.mask p n).dummy = none := fun n => by
    induction n with
    | zero => exact fun p q => q
    | succ n ih => exact fun p q => ih _ (by unfold adv; split <;> exact q)
  exact all c _ rfl
theorem stepN_add (t : SetTable) (h : Int) (c q : Nat) : nth t.mask (stepN t h c) q = stepN t h (c + q) := (nth_add t.mask c _ q).symm
theorem same_block (t : SetTable) : t.sameMemory t.moves t.mask = some true := by simp [SetTable.sameMemory]
/-- the search, from its c-th step on -/
theorem row_find (R : RowSet P w s.heap a L es ep t) {x : Addr} {k : NestedKey} (hx : RowAt P w s.heap k x) (hu : A.units + 8 < cLine) {K : Nat} (hKf : K < 10 * SetTable.turns t.mask) (hK : way t.mask (rh w k) K ∉ t.place.toList) (hKb : ∀ c, c < K → way t.mask (rh w k) c ∈ t.place.toList) {Q : SetFound → Shared → Prop}
    (yes : k ∈ keysN L → Q (.there none) s) (no : k ∉ keysN L → Q (.free (way t.mask (rh w k) K) false) s) : ∀ (f c : Nat) (st : Option SetTable.Probe), st.getD (t.probeStart (rh w k)) = stepN t (rh w k) c → c ≤ K → K - c < f →
      (∀ (i : Nat) (p : Rw), L[i]? = some p → p.2 = k → ∃ c', c ≤ c' ∧ c' < K ∧ t.place.toList[i]? = some (way t.mask (rh w k) c')) → wpAny (model P w) A (setSearchFrom a (.ref x) (rh w k) true f st) Q E s := by
  intro f
  induction f with
  | zero => intro c st _ _ hf; exact absurd hf (Nat.not_lt_zero _)
  | succ f ih =>
    intro c st hst hc hf pend
    obtain ⟨o, ho, hex, hd⟩ := R.obj
    have hsl := ents_size R.ents
    have hlen : t.place.toList.length = L.length := by rw [Array.length_toList, R.tabOk.sz, List.length_map]
    have hashOf : ∀ (i : Nat) (p : Rw), L[i]? = some p → (es[i]?.map (fun e => e.1)).getD 0 = rh w p.2 := fun i p hp => by rw [ents_at R.ents hp]; rfl
    have spot : ∀ q, (nth t.mask (stepN t (rh w k) c) q).j = way t.mask (rh w k) (c + q) := fun q => congrArg SetTable.Probe.j (stepN_add t (rh w k) c q)
    have spec := go_spec t R.tabOk.ris R.tabOk.dm (fun i => (es[i]?.map (fun e => e.1)).getD 0) (rh w k) (10 * SetTable.turns t.mask) (K - c) (stepN t (rh w k) c) (stepN_clean t (rh w k) c) (by omega) (fun q hq => by rw [spot]; exact hKb _ (by omega)) (by rw [spot, show c + (K - c) = K by omega]; exact hK)
    have probeAt : t.probe (fun i => (es[i]?.map (fun e => e.1)).getD 0) (rh w k) (st.getD (t.probeStart (rh w k))) = SetTable.probe.go t (fun i => (es[i]?.map (fun e => e.1)).getD 0) (rh w k) (10 * SetTable.turns t.mask) (stepN t (rh w k) c) := by rw [hst]; rfl
    rw [setSearchFrom_succ]
    refine wpAny_bind (wpAny_setState_of ho hd R.fit ?_)
    dsimp only
    refine wp_if_neg R.stays ?_
    try refine wpAny_bind (wpAny_pure ?_)
    rw [probeAt]
    rcases spec with ⟨q, i, hq, hi, hh, hno, hpr⟩ | ⟨hno, hpr⟩
    · rw [hpr]
      dsimp only
      rw [spot] at hi ⊢
      rw [stepN_add]
      have hil : i < L.length := by rw [← hlen]; exact (List.getElem?_eq_some_iff.mp hi).1
      obtain ⟨p, hp⟩ : ∃ p, L[i]? = some p := ⟨L[i], List.getElem?_eq_getElem hil⟩
      have hm : p ∈ L := List.mem_of_getElem? hp
      have live : t.slot (way t.mask (rh w k) (c + q)) = .live i := slot_live R.tabOk.ris hi
      have rest : wpAny (model P w) A (searchRest a (.ref x) (rh w k) true f es t (way t.mask (rh w k) (c + q)) i (stepN t (rh w k) (c + (q + 1)))) Q E s := by
        unfold searchRest
        rw [ents_at R.ents hp]
        dsimp only
        refine wpAny_bind (wpAny_holding ((nestedKind P w).eqBool hu (R.row p hm).key hx.key (wpAny_bind (wpAny_setState_of ho hd R.fit ?_))))
        dsimp only
        by_cases ek : p.2 = k
        · exact wp_if_pos (by simp [ek]) (wpAny_pure (yes (List.mem_map.mpr ⟨p, hm, ek⟩)))
        · refine wp_if_neg (by simp [ek]) ?_
          try refine wpAny_bind (wpAny_pure ?_)
          rw [same_block]
          dsimp only
          simp only [if_true, live, ents_at R.ents hp]
          refine wpAny_bind (wpAny_isSame_ref_self (wpAny_bind (wpAny_pure ?_)))
          simp only [if_true]
          refine wp_if_neg (by simp [ek]) (ih (c + (q + 1)) _ rfl (by omega) (by omega) fun i2 p2 hp2 e2 => ?_)
          obtain ⟨c2, u1, u2, u3⟩ := pend i2 p2 hp2 e2
          refine ⟨c2, ?_, u2, u3⟩
          rcases Nat.lt_trichotomy c2 (c + q) with z | z | z
          · exact absurd ((hashOf i2 p2 hp2).trans (by rw [e2])) (hno (c2 - c) i2 (by omega) (by rw [spot, show c + (c2 - c) = c2 by omega]; exact u3))
          · subst z
            have l2 := slot_live R.tabOk.ris u3
            rw [live] at l2
            injection l2 with l2
            rw [← l2, hp] at hp2
            cases hp2
            exact absurd e2 ek
          · omega
      by_cases hl : t.led = true
      · refine wp_if_neg (by simp [hl]) ?_
        try refine wpAny_bind (wpAny_pure ?_)
        exact rest
      · refine wp_if_pos (by simp [hl]) (wpAny_bind (row_seen hx (fun y hy => ?_) ?_))
        · obtain ⟨e, he, ee⟩ := List.mem_map.mp hy
          have he2 : e ∈ es.toList := by simpa using (show e ∈ es ∧ e.1 = rh w k by simpa using he).1
          rw [R.ents] at he2
          obtain ⟨p2, hp2, e2⟩ := List.mem_map.mp he2
          exact ⟨p2.2, p2.1, by rw [← ee, ← e2], R.row p2 hp2⟩
        · refine wp_if_neg (by decide) ?_
          try refine wpAny_bind (wpAny_pure ?_)
          exact rest
    · rw [hpr]
      dsimp only
      rw [spot, show c + (K - c) = K by omega]
      refine wpAny_pure (no fun hm => ?_)
      obtain ⟨p, hp, e⟩ := List.mem_map.mp hm
      obtain ⟨i, hi⟩ := List.getElem?_of_mem hp
      obtain ⟨c2, u1, u2, u3⟩ := pend i p hi e
      exact hno (c2 - c) i (by omega) (by rw [spot, show c + (c2 - c) = c2 by omega]; exact u3) ((hashOf i p hi).trans (by rw [e]))
theorem row_search (R : RowSet P w s.heap a L es ep t) {x : Addr} {k : NestedKey} (hx : RowAt P w s.heap k x) (hu : A.units + 8 < cLine) {Q : SetFound → Shared → Prop} (yes : k ∈ keysN L → Q (.there none) s)
    (no : ∀ K, k ∉ keysN L → way t.mask (rh w k) K ∉ t.place.toList → (∀ c, c < K → way t.mask (rh w k) c ∈ t.place.toList) → Q (.free (way t.mask (rh w k) K) false) s) : wpAny (model P w) A (setSearch a (.ref x) (rh w k) true) Q E s := by
  obtain ⟨K, k1, k2, k3⟩ := R.tabOk.first (by have := R.space; simp; omega) (rh w k)
  have small : 10 * SetTable.turns t.mask ≤ 1420 := by
    unfold SetTable.turns
    rcases R.tabOk.mok with e | e | e <;> omega
  unfold setSearch
  refine row_find R hx hu k1 k2 k3 yes (fun hn => no K hn k2 k3) 100000 0 none rfl (Nat.zero_le _) (by omega) fun i p hp e => ?_
  have hi : (hashesN w L)[i]? = some (rh w k) := by rw [List.getElem?_map, hp, Option.map_some, e]
  have hlt : i < t.place.toList.length := by
    rw [Array.length_toList, R.tabOk.sz, List.length_map]
    exact (List.getElem?_eq_some_iff.mp hp).1
  obtain ⟨c, hc, e2⟩ := R.tabOk.before k2 hi (List.getElem?_eq_getElem hlt)
  exact ⟨c, Nat.zero_le _, hc, by rw [List.getElem?_eq_getElem hlt, e2]⟩
end
end Z

/-! Z25: a row is added to the set; the table is laid anew where it is too full. -/
namespace Z
open PySem L2 PySem.Spec PyProof.Rows
section
variable {P : Program} {w : World} {A : Around} {E : Value → Shared → Prop} {s : Shared} {a : Addr} {L : List Rw} {es : Array (Int × Value)} {ep : Nat} {t : SetTable}
theorem RowAt.same {h h' : Heap} {k : NestedKey} {b : Addr} {o : Obj} (hb : RowAt P w h k b) (ho : h.get? a = some o) (hd : o.data = .set es ep t) (hs : Heap.SameBut a h h') : RowAt P w h' k b := by
  have other : ∀ c oc vs n, h.get? c = some oc → oc.data = .seq vs n → h'.get? c = some oc := fun c oc vs n hc hcd => by
    refine (hs.2 c fun e => ?_).trans hc
    subst e
    cases ho.symm.trans hc
    rw [hd] at hcd
    cases hcd
  obtain ⟨o', vs, n, g1, g2, g3, g4⟩ := hb.flat
  exact ⟨nestedKind_stays.stays other hb.key, o', vs, n, other b o' vs n g1 g3, g2, g3, g4⟩
theorem RowAt.keep {h h' : Heap} {k : NestedKey} {b : Addr} (x : RowAt P w h k b) (hk : ∀ c o, h.get? c = some o → h'.get? c = some o) : RowAt P w h' k b := by
  obtain ⟨o, vs, n, g1, g⟩ := x.flat
  exact ⟨nestedKind_stays.stays (fun c oc vs n hc _ => hk c oc hc) x.key, o, vs, n, hk b o g1, g⟩
theorem insert_perm {α : Type} (l : List α) (p : Nat) (x : α) : (l.take p ++ x :: l.drop p).Perm (x :: l) := by
  have := List.perm_middle (l₁ := l.take p) (a := x) (l₂ := l.drop p)
  rwa [List.take_append_drop] at this
theorem range_pick {α : Type} (l : List α) : (List.range l.length).filterMap (fun i => l[i]?) = l := by
  induction l with
  | nil => rfl
  | cons x r ih =>
    rw [List.length_cons, List.range_succ_eq_map, List.filterMap_cons]
    simp only [List.getElem?_cons_zero, List.filterMap_map]
    congr 1
theorem pick_rows {order : Array Nat} (he : es.toList = entriesN w L) (hp : order.toList.Perm (List.range L.length)) :
    ∃ L2 : List Rw, (order.filterMap (es[·]?)).toList = entriesN w L2 ∧ L2.Perm L ∧ hashesN w L2 = order.toList.map fun i => (es.map (·.1)).getD i 0 := by
  refine ⟨order.toList.filterMap fun i => L[i]?, ?_, ?_, ?_⟩
  · rw [Array.toList_filterMap, entriesN, List.map_filterMap]
    refine congrFun (congrArg _ (funext fun i => ?_)) _
    rw [← Array.getElem?_toList, he, entriesN, List.getElem?_map]
  · exact (hp.filterMap _).trans (List.Perm.of_eq (range_pick L))
  · have hl : ∀ i ∈ order.toList, i < L.length := fun i hi => List.mem_range.mp (hp.mem_iff.mp hi)
    generalize order.toList = l at hl
    induction l with
    | nil => rfl
    | cons i l ih =>
      have hi := hl i (by simp)
      have e : (es.map (·.1)).getD i 0 = rh w L[i].2 := by
        have q := ents_at he (List.getElem?_eq_getElem hi)
        simp [Array.getD_eq_getD_getElem?, q]
      rw [List.filterMap_cons_some (List.getElem?_eq_getElem hi), List.map_cons, e]
      exact congrArg _ (ih fun j hj => hl j (by simp [hj]))
/-- what must be true of the set ahead of laying it anew -/
structure Loose (P : Program) (w : World) (h : Heap) (a : Addr) (o : Obj) (L : List Rw) (es : Array (Int × Value)) (ep : Nat) (t : SetTable) : Prop where
  at_ : h.get? a = some o
  exact_ : o.ExactSet
  data_ : o.data = .set es ep t
  ents : es.toList = entriesN w L
  fit : t.fits es.size = true
  once : (keysN L).Nodup
  row : ∀ p ∈ L, RowAt P w h p.2 p.1
  ledOr : w.params.followText "set-order" = true ∨ t.led = true
  below : L.length < 64
theorem row_relay {o : Obj} (R : Loose P w s.heap a o L es ep t) {wanted M : Nat} (hw : SetTable.sizeAbove wanted - 1 = M) (hM : MaskOk M) (hw2 : SetTable.sizeAbove wanted ≤ 128) (hn : L.length * 5 < M * 3) {Q : Unit → Shared → Prop}
    (hQ : ∀ h' L' es' ep' t', Heap.SameBut a s.heap h' → RowSet P w h' a L' es' ep' t' → L'.Perm L → Q () { s with heap := h' }) : wpAny (model P w) A (setRelay a wanted) Q E s := by
  have hsl := ents_size R.ents
  obtain ⟨t', order, e, hp, T, em, el, _, _⟩ := relaid_ok t (hs := es.map (·.1)) (wanted := wanted) hw hM (by rw [Array.size_map, hsl]; omega)
  rw [Array.size_map, hsl] at hp
  obtain ⟨L2, r1, r2, r3⟩ := pick_rows R.ents hp
  rw [← r3] at T
  have hs2 : (order.filterMap (es[·]?)).size = es.size := by rw [ents_size r1, r2.length_eq, hsl]
  rw [setRelay_eq]
  refine wpAny_bind (wpAny_setState_of R.at_ R.data_ R.fit ?_)
  dsimp only
  refine wp_if_neg (by rw [sizeLine_eq]; omega) ?_
  try refine wpAny_bind (wpAny_pure ?_)
  rw [e]
  dsimp only
  refine wpAny_bind (wp_if_neg (by rw [hs2]; simp) ?_)
  try refine wpAny_bind (wpAny_pure ?_)
  refine wpAny_pure (wpAny_storeSet_of R.at_ R.data_ ?_ (by have := R.below; show _ ≤ sizeLine; rw [hs2, hsl, sizeLine_eq]; omega))
  have sb : Heap.SameBut a s.heap (s.heap.update a (Obj.putSet (order.filterMap (es[·]?)) t')) := Heap.SameBut.update ..
  refine hQ _ L2 (order.filterMap (es[·]?)) (ep + 1) t' sb ⟨⟨_, store_at R.at_ R.data_, ⟨R.exact_.1, R.exact_.2.1, R.exact_.2.2⟩, rfl⟩, r1, T, (r2.map _).nodup_iff.mpr R.once, fun p hpm => (R.row p (r2.mem_iff.mp hpm)).same R.at_ R.data_ sb, by rw [el]; exact R.ledOr, by rw [r2.length_eq, em]; exact hn, by rw [r2.length_eq]; exact R.below⟩ r2
/-- a table that isn't plain any more -/
theorem tab_dull {hs : List Int} (T : TabOk t hs) : TabOk { t with plain := false } hs := ⟨T.ris, T.dm, T.sz, T.mok, T.bd, T.reach⟩
theorem row_add (R : RowSet P w s.heap a L es ep t) {x : Addr} {k : NestedKey} (hx : RowAt P w s.heap k x) (hu : A.units + 8 < cLine) (hfew : L.length + 1 < 64) {Q : Bool → Shared → Prop}
    (hQ : ∀ b h' L' es' ep' t', Heap.SameBut a s.heap h' → RowSet P w h' a L' es' ep' t' → (k ∈ keysN L → L' = L) → (k ∉ keysN L → L'.Perm ((x, k) :: L)) → Q b { s with heap := h' }) : wpAny (model P w) A (setAddHashed a (.ref x) (rh w k)) Q E s := by
  obtain ⟨o, ho, hex, hd⟩ := R.obj
  unfold setAddHashed
  refine wpAny_holding ?_
  rw [show (100000 : Nat) = 99999 + 1 from rfl, setAddHashedIn_succ]
  refine wpAny_bind (wpAny_setState_of ho hd R.fit ?_)
  dsimp only
  refine wp_if_neg (by simp [byScan, Value.scannable]) ?_
  try refine wpAny_bind (wpAny_pure ?_)
  refine wpAny_bind (row_search R hx hu (fun hm => wpAny_pure (hQ false s.heap L es ep t (Heap.SameBut.refl a s.heap) R (fun _ => rfl) fun z => absurd hm z)) fun K hm hK hb => ?_)
  dsimp only
  refine wpAny_bind (wpAny_setState_of ho hd R.fit ?_)
  dsimp only
  have hspace := R.space
  obtain ⟨q1, q2, q3, q4, q5, q6, q7, q8, q9⟩ := R.tabOk.put hK hb
  generalize hpt : t.put (way t.mask (rh w k) K) = pt at q1 q3 q4 q5 q6 q7 q8 q9 ⊢
  obtain ⟨t1, p⟩ := pt
  dsimp only at q1 q3 q4 q5 q6 q7 q8 q9 ⊢
  subst q1
  have hin : (SetTable.insertAt es (SetTable.below t.place (way t.mask (rh w k) K)) (rh w k, Value.ref x)).toList = entriesN w (L.take (SetTable.below t.place (way t.mask (rh w k) K)) ++ (x, k) :: L.drop (SetTable.below t.place (way t.mask (rh w k) K))) := by
    rw [SetTable.toList_insertAt, R.ents]
    simp only [entriesN, List.map_append, List.map_cons, List.map_take, List.map_drop]
  generalize SetTable.below t.place (way t.mask (rh w k) K) = p at q2 q3 hin ⊢
  have pm := insert_perm L p (x, k)
  have hh : hashesN w (L.take p ++ (x, k) :: L.drop p) = (hashesN w L).take p ++ rh w k :: (hashesN w L).drop p := by
    simp only [hashesN, List.map_append, List.map_cons, List.map_take, List.map_drop]
  rw [← hh] at q3
  generalize L.take p ++ (x, k) :: L.drop p = L1 at pm q3 hin
  have hlen : L1.length = L.length + 1 := pm.length_eq
  have once1 : (keysN L1).Nodup := (pm.map _).nodup_iff.mpr (List.nodup_cons.mpr ⟨hm, R.once⟩)
  have hes := ents_size hin
  generalize SetTable.insertAt es p (rh w k, Value.ref x) = es1 at hin hes ⊢
  have fin : ∀ t2 : SetTable, TabOk t2 (hashesN w L1) → t2.mask = t.mask → t2.led = t.led → t2.fill = L.length + 1 → wpAny (model P w) A (storeSet a es1 t2 >>= fun _ => if (!false && t2.tooFull) = true then (setRelay a (SetTable.grown (es.size + 1)) >>= fun _ => pure true) else pure true) Q E s := fun t2 T em el ef => by
    refine wpAny_bind (wpAny_storeSet_of ho hd ?_ (by rw [hes, hlen, sizeLine_eq]; omega))
    have sb : Heap.SameBut a s.heap (s.heap.update a (Obj.putSet es1 t2)) := Heap.SameBut.update ..
    have ho1 := store_at (es' := es1) (t' := t2) ho hd
    generalize s.heap.update a (Obj.putSet es1 t2) = h1 at sb ho1 ⊢
    have row1 : ∀ p ∈ L1, RowAt P w h1 p.2 p.1 := fun p hp => by
      rcases List.mem_cons.mp (pm.mem_iff.mp hp) with rfl | hp
      · exact hx.same ho hd sb
      · exact (R.row p hp).same ho hd sb
    have led1 : w.params.followText "set-order" = true ∨ t2.led = true := by rw [el]; exact R.ledOr
    by_cases hf : t2.tooFull = true
    · have full : (L.length + 1) * 5 ≥ t.mask * 3 := by
        unfold SetTable.tooFull at hf
        rw [decide_eq_true_eq, ef, em] at hf
        exact hf
      have two : (t.mask = 7 ∧ L.length = 4) ∨ (t.mask = 31 ∧ L.length = 18) := by rcases R.tabOk.mok with e | e | e <;> omega
      have grow : ∀ M, SetTable.sizeAbove (SetTable.grown (L.length + 1)) - 1 = M → MaskOk M → SetTable.sizeAbove (SetTable.grown (L.length + 1)) ≤ 128 → (L.length + 1) * 5 < M * 3 →
          wpAny (model P w) A (if (!false && t2.tooFull) = true then (setRelay a (SetTable.grown (es.size + 1)) >>= fun _ => pure true) else pure true) Q E { s with heap := h1 } := fun M g1 g2 g3 g4 => by
        rw [if_pos (by simp [hf]), ents_size R.ents]
        have lo : Loose P w h1 a _ L1 es1 (ep + 1) t2 := ⟨ho1, ⟨hex.1, hex.2.1, hex.2.2⟩, rfl, hin, fits_rows T (by rw [hes]; simp) (by rw [em]; simp; omega), once1, row1, led1, by omega⟩
        refine wpAny_bind (row_relay (s := { s with heap := h1 }) lo g1 g2 g3 (by rw [hlen]; exact g4) fun h2 L2 es2 ep2 t3 sb2 R2 pm2 => ?_)
        exact wpAny_pure (hQ true h2 L2 es2 ep2 t3 (sb.trans sb2) R2 (fun z => absurd z hm) fun _ => pm2.trans pm)
      rcases two with ⟨_, e2⟩ | ⟨_, e2⟩
      · exact grow 31 (by rw [e2, size_20]) (.inr (.inl rfl)) (by rw [e2, size_20]; decide) (by omega)
      · exact grow 127 (by rw [e2, size_76]) (.inr (.inr rfl)) (by rw [e2, size_76]; decide) (by omega)
    · rw [if_neg (by simp [hf])]
      refine wpAny_pure (hQ true h1 L1 es1 (ep + 1) t2 sb ⟨⟨_, ho1, ⟨hex.1, hex.2.1, hex.2.2⟩, rfl⟩, hin, T, once1, row1, led1, ?_, by omega⟩ (fun z => absurd z hm) fun _ => pm)
      unfold SetTable.tooFull at hf
      rw [decide_eq_true_eq, ef] at hf
      omega
  have ef : t1.fill = L.length + 1 := by rw [q9, List.length_map]
  by_cases hp1 : t1.plain = true
  · simp only [hp1, if_true]
    refine wpAny_bind (row_by hx fun c => ?_)
    cases c
    · exact fin _ (tab_dull q3) q4 q5 ef
    · exact fin _ q3 q4 q5 ef
  · simp only [hp1, if_false]
    exact wpAny_bind (wpAny_pure (fin _ q3 q4 q5 ef))
end
end Z

/-! Z26: set(xs) of a list of rows. -/
namespace Z
open PySem L2 PySem.Spec PyProof.Rows
/-- the set holds just what the first i rows are -/
structure Held (ks : List Rw) (i : Nat) (L : List Rw) : Prop where
  sub : ∀ p ∈ L, p ∈ ks.take i
  all : ∀ p ∈ ks.take i, p.2 ∈ keysN L
  len : L.length ≤ i
theorem Held.start (ks : List Rw) : Held ks 0 [] := ⟨by simp, by simp, Nat.le_refl _⟩
theorem take_more {α : Type} {l : List α} {i : Nat} {x : α} (h : l[i]? = some x) : l.take (i + 1) = l.take i ++ [x] := by rw [List.take_add_one, h]; rfl
theorem Held.next {ks L L' : List Rw} {i : Nat} {x : Rw} (g : Held ks i L) (h : ks[i]? = some x) (h1 : x.2 ∈ keysN L → L' = L) (h2 : x.2 ∉ keysN L → L'.Perm (x :: L)) : Held ks (i + 1) L' := by
  have tk := take_more h
  by_cases hm : x.2 ∈ keysN L
  · rw [h1 hm]
    refine ⟨fun p hp => by rw [tk]; exact List.mem_append_left _ (g.sub p hp), fun p hp => ?_, Nat.le_succ_of_le g.len⟩
    rw [tk] at hp
    rcases List.mem_append.mp hp with z | z
    · exact g.all p z
    · rw [List.mem_singleton.mp z]; exact hm
  · have pm := h2 hm
    refine ⟨fun p hp => ?_, fun p hp => (pm.map _).mem_iff.mpr ?_, by rw [pm.length_eq]; exact Nat.succ_le_succ g.len⟩
    · rw [tk]
      rcases List.mem_cons.mp (pm.mem_iff.mp hp) with rfl | z
      · exact List.mem_append_right _ (by simp)
      · exact List.mem_append_left _ (g.sub p z)
    · rw [tk] at hp
      rcases List.mem_append.mp hp with z | z
      · exact List.mem_cons_of_mem _ (g.all p z)
      · rw [List.mem_singleton.mp z]; exact List.mem_cons_self
section
variable {P : Program} {w : World} {A : Around} {E : Value → Shared → Prop} {s : Shared}
theorem RowSet.keep {h h' : Heap} {a : Addr} {L : List Rw} {es : Array (Int × Value)} {ep : Nat} {t : SetTable} (R : RowSet P w h a L es ep t) (ha : ∀ o, h.get? a = some o → h'.get? a = some o) (hr : ∀ p ∈ L, RowAt P w h' p.2 p.1) : RowSet P w h' a L es ep t := by
  obtain ⟨o, ho, r⟩ := R.obj
  exact ⟨⟨o, ha o ho, r⟩, R.ents, R.tabOk, R.once, hr, R.ledOr, R.space, R.below⟩
theorem rowSet_new {h : Heap} {a : Addr} {d : Bool} (hd : d = !w.params.followText "set-order") (ho : h.get? a = some { cls := .type "set", dict := none, data := .set #[] 0 (.fresh 0 0 d) }) : RowSet P w h a [] #[] 0 (.fresh 0 0 d) where
  obj := ⟨_, ho, ⟨rfl, rfl, rfl⟩, rfl⟩
  ents := rfl
  tabOk := ⟨List.Pairwise.nil, rfl, rfl, .inl rfl, (by intro x hx; cases hx), (by intro i hh j hi; simp at hi)⟩
  once := List.nodup_nil
  row := by simp
  ledOr := by
    subst hd
    cases q : w.params.followText "set-order"
    · exact .inr rfl
    · exact .inl rfl
  space := (show 0 * 5 < 7 * 3 by decide)
  below := (show 0 < 64 by decide)
/-- the loop of set.update over rows -/
theorem rows_update {I : Addr} {fp wr : List Addr} {G : Array GenState → Array GenState → Prop} {n : Nat} {Pv : Nat → Value → Prop} {St : Nat → Shared → Prop} {R : Result → Shared → Prop} (W : WalksS P w A.in1 I fp wr G n Pv St) (S : Addr) (hSf : S ∉ fp)
    (ks : List Rw) (hn : n = ks.length) (hfew : ks.length < 64) (hval : ∀ i v, Pv i v → ∃ p, ks[i]? = some p ∧ v = .ref p.1) (h0 : Heap) (hk : ∀ p ∈ ks, RowAt P w h0 p.2 p.1) (hS0 : h0.get? S = none) (hw0 : ∀ b ∈ wr, h0.get? b = none) (hu : A.in1.units + 8 < cLine) :
    ∀ (m i : Nat) (s : Shared), n - i = m → i ≤ n → St i s → (∀ b o, h0.get? b = some o → s.heap.get? b = some o) → (∃ L es ep t, RowSet P w s.heap S L es ep t ∧ Held ks i L) →
      (∀ s' L es ep t, Moved (S :: wr) G s s' → RowSet P w s'.heap S L es ep t → Held ks n L → (∀ b o, h0.get? b = some o → s'.heap.get? b = some o) → R (.ok (.ret .none)) s') → codeAny (model P w) A (.builtin "set.update.loop" ⟨[.ref S, .ref I], []⟩) R s := by
  have hSw : S ∉ wr := fun h => hSf (W.sub _ h)
  have wide : ∀ b ∈ wr, b ∈ S :: wr := fun b hb => List.mem_cons_of_mem _ hb
  have stay : ∀ {s s' : Shared}, Moved wr G s s' → (∀ b o, h0.get? b = some o → s.heap.get? b = some o) → ∀ b o, h0.get? b = some o → s'.heap.get? b = some o := fun mv kp b o e => mv.heap b o (fun hb => by rw [hw0 b hb] at e; cases e) (kp b o e)
  intro m
  induction m with
  | zero =>
    intro i s hm hi hst kp ⟨L, es, ep, t, hS, g⟩ hR
    obtain rfl : i = n := by omega
    refine codeAny_builtin F.entry_set_update_loop ?_
    rw [Around.under_plainId F.plain_set_update_loop _]
    show wpAny _ A.in1 (pyNext (.ref I) >>= _) _ _ s
    refine wpAny_bind (W.done s _ _ hst fun s' mv => wpAny_pure (hR s' L es ep t (mv.mono wide) (hS.keep (fun o e => mv.heap S o hSw e) fun p hp => (hk p (List.mem_of_mem_take (g.sub p hp))).keep (stay mv kp)) g (stay mv kp)))
  | succ m ih =>
    intro i s hm hi hst kp ⟨L, es, ep, t, hS, g⟩ hR
    have hlt : i < n := by omega
    refine codeAny_builtin F.entry_set_update_loop ?_
    rw [Around.under_plainId F.plain_set_update_loop _]
    show wpAny _ A.in1 (pyNext (.ref I) >>= _) _ _ s
    refine wpAny_bind (W.item i s _ _ hlt hst fun v s' hP hst' mv => ?_)
    obtain ⟨p, hp, rfl⟩ := hval i v hP
    have kp' := stay mv kp
    have hS' : RowSet P w s'.heap S L es ep t := hS.keep (fun o e => mv.heap S o hSw e) fun q hq => (hk q (List.mem_of_mem_take (g.sub q hq))).keep kp'
    have hx : RowAt P w s'.heap p.2 p.1 := (hk p (List.mem_of_getElem? hp)).keep kp'
    show wpAny _ A.in1 (holding [Value.ref p.1] (setAdd S (.ref p.1)) >>= _) _ _ s'
    refine wpAny_bind (wpAny_holding ?_)
    unfold setAdd
    refine wpAny_holding (wpAny_bind ((nestedKind P w).pyHash hu hx.key ?_))
    refine row_add (s := { s' with toks := s'.toks + (nestedKind P w).draws p.2 }) hS' hx hu (by have := g.len; omega) fun b h' L' es' ep' t' sb hS2 c1 c2 => ?_
    have kp2 : ∀ b o, h0.get? b = some o → h'.get? b = some o := fun b o e => (sb.2 b (fun z => by rw [z, hS0] at e; cases e)).trans (kp' b o e)
    refine wpAny_pure ⟨plainId_quiet F.plain_set_update_loop _, ih (i + 1) _ (by omega) hlt (W.frame _ s' _ _ hst' (Nat.le_add_right _ _) fun b hb o e => ?_) kp2 ⟨L', es', ep', t', hS2, g.next hp c1 c2⟩ fun s'' L2 es2 ep2 t2 mv2 hS'' g'' kp'' => ?_⟩
    · rw [sb.2 b (fun h : b = S => hSf (h ▸ hb))]; exact e
    · refine hR s'' L2 es2 ep2 t2 (Moved.trans W.gtrans ((mv.mono wide).then_heap (Nat.le_add_right _ _) fun b o hb e => ?_) mv2) hS'' g'' kp''
      rw [sb.2 b (fun h : b = S => hb (by rw [h]; exact List.mem_cons_self))]; exact e
end
end Z

/-! Z27b: set(xs) of a tuple of rows. -/
namespace Z
open PySem L2 PySem.Spec PyProof.Rows
section
variable {P : Program} {w : World} {A : Around} {E : Value → Shared → Prop} {s : Shared}
theorem call_set_rowsT {l : Addr} {items : Array Value} (ks : List Rw) {Q : Value → Shared → Prop} (hh : A.handled = none) (hl : s.heap.IsTuple l items) (hit : items.toList = ks.map fun p => Value.ref p.1) (hk : ∀ p ∈ ks, RowAt P w s.heap p.2 p.1) (hfew : ks.length < 64) (hu : A.units + 12 < cLine)
    (h : ∀ (h' : Heap) (tk : Nat) L es ep t, RowSet P w h' s.heap.objs.size L es ep t → Held ks ks.length L → (∀ b o, s.heap.get? b = some o → h'.get? b = some o) → Q (.ref s.heap.objs.size) { s with heap := h', toks := tk }) : wpAny (model P w) A (call (.type "set") [.ref l]) Q E s := by
  have hn : items.size = ks.length := by rw [← Array.length_toList, hit, List.length_map]
  obtain ⟨c, tl, hmro⟩ := F.called_set.mro
  have hmade := F.called_set.made
  have hsub := F.called_set.sub
  have h1 := F.called_set.notType
  have h2 := F.called_set.canCreate
  have hct := F.typeCall_set_1 (.ref l)
  refine wpAny_call (codeAny_of_tree ?_)
  show wpAny _ _ (callAny (.type "set") _) _ _ _
  refine wpAny_pure ⟨Code.quiet_builtin _ (by decide +kernel), codeAny_builtin F.entry_type_call ?_⟩
  rw [Around.under_plain (weight_type_call_type "set" [.ref l] []) rfl]
  repeat (any_goals (first | assumption | wp_step))
  generalize hd0 : (!w.params.followText "set-order") = d0
  have hfresh : ∀ h : Heap, (h.push { cls := .type "set", dict := none, data := .set #[] 0 (.fresh 0 0 d0) }).get? h.objs.size = some { cls := .type "set", dict := none, data := .set #[] 0 (.fresh 0 0 d0) } := fun h => Heap.get?_push_size _ rfl
  refine codeAny_mono (code_set_led1 (.ref l) (E := E) (Q₁ := fun obj s₁ => obj = .ref s.heap.objs.size ∧ s₁ = { s with heap := s.heap.push { cls := .type "set", dict := none, data := .set #[] 0 (.fresh 0 0 d0) } }) (by subst hd0; exact ⟨rfl, rfl⟩)) fun r s₁ hr => ?_
  match r, hr with
  | .error e, hr => exact hr
  | .ok (.ret obj), hr =>
    obtain ⟨rfl, rfl⟩ := hr
    have hT : Shared.TypeIs { s with heap := s.heap.push { cls := .type "set", dict := none, data := .set #[] 0 (.fresh 0 0 d0) } } (.ref s.heap.objs.size) "set" := ⟨_, hfresh s.heap, rfl⟩
    have hli := F.called_set.init.lookup
    have hbi := F.called_set.init.bind (.ref s.heap.objs.size)
    repeat (any_goals (first | assumption | wp_step))
    have f1 := hfresh s.heap
    have f2 : ∀ b o, s.heap.get? b = some o → (s.heap.push { cls := .type "set", dict := none, data := .set #[] 0 (.fresh 0 0 d0) }).get? b = some o := fun b o e => Heap.get?_push_of_some _ e
    have f3 : (s.heap.push { cls := .type "set", dict := none, data := .set #[] 0 (.fresh 0 0 d0) }).objs.size = s.heap.objs.size + 1 := Heap.size_push ..
    clear hr hfresh
    generalize s.heap.push { cls := .type "set", dict := none, data := .set #[] 0 (.fresh 0 0 d0) } = N at f1 f2 f3 hT ⊢
    refine codeAny_mono (codeAny_call_builtin (R := wants (fun r s₂ => r = .none ∧ ∃ h' tk L es ep t, s₂ = { s with heap := h', toks := tk } ∧ RowSet P w h' s.heap.objs.size L es ep t ∧ Held ks ks.length L ∧ (∀ b o, s.heap.get? b = some o → h'.get? b = some o)) E) F.called_set.init.plain F.entry_set_init (check_set_init_1 hT ?_)) fun r₂ s₂ hr₂ => ?_
    · obtain ⟨ol, hol, hcl, nl, hdl⟩ := hl
      obtain ⟨ocls, odict, odata, oslots⟩ := ol
      simp only at hcl hdl
      subst hcl hdl
      have hol' := f2 l _ hol
      have hl1 : N.IsTuple l items := ⟨_, hol', rfl, nl, rfl⟩
      have hsls := F.sub_tuple_set
      have hslf := F.sub_tuple_frozenset
      have hne : (Value.type "tuple" == Value.type "dict") = false := by decide
      unfold Builtin.«set.__init__» noKeywords Builtin.Frozenset.updateFrom
      generalize hPI : pyIter = PI
      wp_walk
      subst hPI
      refine wpAny_pyIter_tuple hl1 (wpAny_bind (wpAny_runValue ?_))
      have lS : l < s.heap.objs.size := Heap.lt_size hol
      have gone : ∀ b, s.heap.objs.size ≤ b → s.heap.get? b = none := fun b hb => by
        cases q : s.heap.get? b with
        | none => rfl
        | some o => exact absurd (Heap.lt_size q) (Nat.not_lt_of_le hb)
      have hval : ∀ (i : Nat) (v : Value), items[i]? = some v → ∃ p, ks[i]? = some p ∧ v = .ref p.1 := fun i v hv => by
        rw [← Array.getElem?_toList, hit, List.getElem?_map, Option.map_eq_some_iff] at hv
        obtain ⟨p, e1, e2⟩ := hv
        exact ⟨p, e1, e2.symm⟩
      have hneI : l ≠ N.objs.size := by rw [f3]; exact Nat.ne_of_lt (Nat.lt_succ_of_lt lS)
      have hSf : s.heap.objs.size ∉ [N.objs.size, l] := by
        rw [f3]
        simp only [List.mem_cons, List.not_mem_nil, or_false, not_or]
        exact ⟨Nat.ne_of_lt (Nat.lt_succ_self _), Nat.ne_of_gt lS⟩
      have hh3 : A.in1.in1.in1.handled = none := by simp [hh]
      refine rows_update ((Walks.tuple hh3 _ l hneI items).toS) s.heap.objs.size hSf ks hn hfew hval s.heap hk (gone _ (Nat.le_refl _)) (fun b hb => gone b (by rw [List.mem_singleton.mp hb, f3]; exact Nat.le_succ _)) (by show A.units + 3 + 8 < cLine; omega) (items.size - 0) 0 _ (by omega) (Nat.zero_le _)
        ⟨⟨_, Heap.get?_push_size _ rfl, rfl, rfl⟩, (hl1.push _)⟩ (fun b o e => Heap.get?_push_of_some _ (f2 b o e)) ⟨[], #[], 0, _, rowSet_new hd0.symm (Heap.get?_push_of_some _ f1), Held.start ks⟩ fun s' L es ep t mv hS' g' kp => ?_
      obtain ⟨h', g2, d', tk', os'⟩ := s'
      obtain rfl : g2 = s.gens := mv.gens
      obtain rfl : d' = s.drawn := mv.drawn
      obtain rfl : os' = s.os := mv.os
      rw [hn] at g'
      show wpAny _ _ _ _ _ _
      refine wpAny_pure ?_
      show wpAny _ _ (ret Value.none) _ _ _
      exact wpAny_pure ⟨rfl, h', tk', L, es, ep, t, rfl, hS', g', kp⟩
    · match r₂, hr₂ with
      | .error e, hr₂ => exact hr₂
      | .ok (.ret r), hr₂ =>
        obtain ⟨rfl, h', tk, L, es, ep, t, rfl, hS', g', k'⟩ := hr₂
        repeat (any_goals (first | assumption | wp_step))
        exact h _ _ _ _ _ _ hS' g' k'
      | .ok .next, hr₂ | .ok .brk, hr₂ | .ok .cont, hr₂ => exact hr₂.elim
  | .ok .next, hr | .ok .brk, hr | .ok .cont, hr => exact hr.elim
end
end Z

/-! Z27: set(xs) is called. -/
namespace Z
open PySem L2 PySem.Spec PyProof.Rows
section
variable {P : Program} {w : World} {A : Around} {E : Value → Shared → Prop} {s : Shared}
theorem call_set_rows {l : Addr} {items : Array Value} (ks : List Rw) {Q : Value → Shared → Prop} (hh : A.handled = none) (hl : s.heap.IsList l items) (hit : items.toList = ks.map fun p => Value.ref p.1) (hk : ∀ p ∈ ks, RowAt P w s.heap p.2 p.1) (hfew : ks.length < 64) (hu : A.units + 12 < cLine)
    (h : ∀ (h' : Heap) (tk : Nat) L es ep t, RowSet P w h' s.heap.objs.size L es ep t → Held ks ks.length L → (∀ b o, s.heap.get? b = some o → h'.get? b = some o) → Q (.ref s.heap.objs.size) { s with heap := h', toks := tk }) : wpAny (model P w) A (call (.type "set") [.ref l]) Q E s := by
  have hn : items.size = ks.length := by rw [← Array.length_toList, hit, List.length_map]
  obtain ⟨c, tl, hmro⟩ := F.called_set.mro
  have hmade := F.called_set.made
  have hsub := F.called_set.sub
  have h1 := F.called_set.notType
  have h2 := F.called_set.canCreate
  have hct := F.typeCall_set_1 (.ref l)
  refine wpAny_call (codeAny_of_tree ?_)
  show wpAny _ _ (callAny (.type "set") _) _ _ _
  refine wpAny_pure ⟨Code.quiet_builtin _ (by decide +kernel), codeAny_builtin F.entry_type_call ?_⟩
  rw [Around.under_plain (weight_type_call_type "set" [.ref l] []) rfl]
  repeat (any_goals (first | assumption | wp_step))
  generalize hd0 : (!w.params.followText "set-order") = d0
  have hfresh : ∀ h : Heap, (h.push { cls := .type "set", dict := none, data := .set #[] 0 (.fresh 0 0 d0) }).get? h.objs.size = some { cls := .type "set", dict := none, data := .set #[] 0 (.fresh 0 0 d0) } := fun h => Heap.get?_push_size _ rfl
  refine codeAny_mono (code_set_led1 (.ref l) (E := E) (Q₁ := fun obj s₁ => obj = .ref s.heap.objs.size ∧ s₁ = { s with heap := s.heap.push { cls := .type "set", dict := none, data := .set #[] 0 (.fresh 0 0 d0) } }) (by subst hd0; exact ⟨rfl, rfl⟩)) fun r s₁ hr => ?_
  match r, hr with
  | .error e, hr => exact hr
  | .ok (.ret obj), hr =>
    obtain ⟨rfl, rfl⟩ := hr
    have hT : Shared.TypeIs { s with heap := s.heap.push { cls := .type "set", dict := none, data := .set #[] 0 (.fresh 0 0 d0) } } (.ref s.heap.objs.size) "set" := ⟨_, hfresh s.heap, rfl⟩
    have hli := F.called_set.init.lookup
    have hbi := F.called_set.init.bind (.ref s.heap.objs.size)
    repeat (any_goals (first | assumption | wp_step))
    have f1 := hfresh s.heap
    have f2 : ∀ b o, s.heap.get? b = some o → (s.heap.push { cls := .type "set", dict := none, data := .set #[] 0 (.fresh 0 0 d0) }).get? b = some o := fun b o e => Heap.get?_push_of_some _ e
    have f3 : (s.heap.push { cls := .type "set", dict := none, data := .set #[] 0 (.fresh 0 0 d0) }).objs.size = s.heap.objs.size + 1 := Heap.size_push ..
    clear hr hfresh
    generalize s.heap.push { cls := .type "set", dict := none, data := .set #[] 0 (.fresh 0 0 d0) } = N at f1 f2 f3 hT ⊢
    refine codeAny_mono (codeAny_call_builtin (R := wants (fun r s₂ => r = .none ∧ ∃ h' tk L es ep t, s₂ = { s with heap := h', toks := tk } ∧ RowSet P w h' s.heap.objs.size L es ep t ∧ Held ks ks.length L ∧ (∀ b o, s.heap.get? b = some o → h'.get? b = some o)) E) F.called_set.init.plain F.entry_set_init (check_set_init_1 hT ?_)) fun r₂ s₂ hr₂ => ?_
    · obtain ⟨ol, hol, hcl, nl, hdl⟩ := hl
      obtain ⟨ocls, odict, odata, oslots⟩ := ol
      simp only at hcl hdl
      subst hcl hdl
      have hol' := f2 l _ hol
      have hl1 : N.IsList l items := ⟨_, hol', rfl, nl, rfl⟩
      have hsls := F.sub_list_set
      have hslf := F.sub_list_frozenset
      have hne : (Value.type "list" == Value.type "dict") = false := by decide
      unfold Builtin.«set.__init__» noKeywords Builtin.Frozenset.updateFrom
      generalize hPI : pyIter = PI
      wp_walk
      subst hPI
      refine wpAny_pyIter_list hl1 (wpAny_bind (wpAny_runValue ?_))
      have lS : l < s.heap.objs.size := Heap.lt_size hol
      have gone : ∀ b, s.heap.objs.size ≤ b → s.heap.get? b = none := fun b hb => by
        cases q : s.heap.get? b with
        | none => rfl
        | some o => exact absurd (Heap.lt_size q) (Nat.not_lt_of_le hb)
      have hval : ∀ (i : Nat) (v : Value), items[i]? = some v → ∃ p, ks[i]? = some p ∧ v = .ref p.1 := fun i v hv => by
        rw [← Array.getElem?_toList, hit, List.getElem?_map, Option.map_eq_some_iff] at hv
        obtain ⟨p, e1, e2⟩ := hv
        exact ⟨p, e1, e2.symm⟩
      have hneI : l ≠ N.objs.size := by rw [f3]; exact Nat.ne_of_lt (Nat.lt_succ_of_lt lS)
      have hSf : s.heap.objs.size ∉ [N.objs.size, l] := by
        rw [f3]
        simp only [List.mem_cons, List.not_mem_nil, or_false, not_or]
        exact ⟨Nat.ne_of_lt (Nat.lt_succ_self _), Nat.ne_of_gt lS⟩
      have hh3 : A.in1.in1.in1.handled = none := by simp [hh]
      refine rows_update ((Walks.list hh3 _ l hneI items).toS) s.heap.objs.size hSf ks hn hfew hval s.heap hk (gone _ (Nat.le_refl _)) (fun b hb => gone b (by rw [List.mem_singleton.mp hb, f3]; exact Nat.le_succ _)) (by show A.units + 3 + 8 < cLine; omega) (items.size - 0) 0 _ (by omega) (Nat.zero_le _)
        ⟨⟨_, Heap.get?_push_size _ rfl, rfl, rfl⟩, (hl1.push _)⟩ (fun b o e => Heap.get?_push_of_some _ (f2 b o e)) ⟨[], #[], 0, _, rowSet_new hd0.symm (Heap.get?_push_of_some _ f1), Held.start ks⟩ fun s' L es ep t mv hS' g' kp => ?_
      obtain ⟨h', g2, d', tk', os'⟩ := s'
      obtain rfl : g2 = s.gens := mv.gens
      obtain rfl : d' = s.drawn := mv.drawn
      obtain rfl : os' = s.os := mv.os
      rw [hn] at g'
      show wpAny _ _ _ _ _ _
      refine wpAny_pure ?_
      show wpAny _ _ (ret Value.none) _ _ _
      exact wpAny_pure ⟨rfl, h', tk', L, es, ep, t, rfl, hS', g', kp⟩
    · match r₂, hr₂ with
      | .error e, hr₂ => exact hr₂
      | .ok (.ret r), hr₂ =>
        obtain ⟨rfl, h', tk, L, es, ep, t, rfl, hS', g', k'⟩ := hr₂
        repeat (any_goals (first | assumption | wp_step))
        exact h _ _ _ _ _ _ hS' g' k'
      | .ok .next, hr₂ | .ok .brk, hr₂ | .ok .cont, hr₂ => exact hr₂.elim
  | .ok .next, hr | .ok .brk, hr | .ok .cont, hr => exact hr.elim
end
end Z

/-! Z28: sorted(a set of rows). -/
namespace Z
open PySem L2 PySem.Spec PyProof.Rows
/-- a row stands ahead of another one -/
def ltK (x y : NestedKey) : Bool := PySem.W.dataLt x.data y.data
theorem ltK_irr (x : NestedKey) : ltK x x = false := lex_irrefl _
theorem ltK_trans {x y z : NestedKey} (h1 : ltK x y = true) (h2 : ltK y z = true) : ltK x z = true := lex_trans _ _ _ h1 h2
theorem perm_back {α β : Type} {f : α → β} {vs m : List β} (h : vs.Perm m) : ∀ L : List α, m = L.map f → ∃ bs : List α, bs.Perm L ∧ vs = bs.map f := by
  induction h with
  | nil => intro L e; exact ⟨L, .refl _, e⟩
  | cons x _ ih =>
    intro L e
    cases L with
    | nil => cases e
    | cons y r =>
      injection e with e1 e2
      obtain ⟨bs, p, rfl⟩ := ih r e2
      exact ⟨y :: bs, p.cons y, by rw [e1]; rfl⟩
  | swap x y l =>
    intro L e
    cases L with
    | nil => cases e
    | cons u r =>
      cases r with
      | nil => cases e
      | cons v r =>
        injection e with e1 e2
        injection e2 with e2 e3
        exact ⟨v :: u :: r, .swap u v r, by rw [e1, e2, e3]; rfl⟩
  | trans _ _ ih1 ih2 =>
    intro L e
    obtain ⟨b2, p2, e2⟩ := ih2 L e
    obtain ⟨b1, p1, e1⟩ := ih1 b2 e2
    exact ⟨b1, p1.trans p2, e1⟩
theorem atoms_read {h : Heap} : ∀ {ks : List NestedKey} {vs : List Value}, NestedAll h ks vs → (∀ v ∈ vs, AtomV v) → ReadsAll h vs (NestedKey.datas ks) [] ∧ PyData.depthAll (NestedKey.datas ks) = 0
  | [], _, x, _ => by
    cases x
    exact ⟨.nil, by simp [NestedKey.datas, PyData.depthAll]⟩
  | k :: ks, _, x, ha => by
    cases x with
    | @cons _ v _ vs x1 x2 =>
      obtain ⟨r1, r2⟩ := atoms_read x2 fun u hu => ha u (by simp [hu])
      rcases ha v (by simp) with ⟨i, t, rfl⟩ | ⟨y, t, rfl⟩
      · cases x1
        exact ⟨.cons (as := []) (.int i t) r1, by simp [NestedKey.datas, NestedKey.data, PyData.depthAll, PyData.depth, r2]⟩
      · cases x1
        exact ⟨.cons (as := []) (.str y t) r1, by simp [NestedKey.datas, NestedKey.data, PyData.depthAll, PyData.depth, r2]⟩
section
variable {P : Program} {w : World} {A : Around} {E : Value → Shared → Prop} {s : Shared}
theorem row_reads {h : Heap} {k : NestedKey} {b : Addr} (x : RowAt P w h k b) : Reads h (.ref b) k.data [] ∧ k.data.depth = 1 := by
  obtain ⟨o, vs, n, g1, g2, g3, g4⟩ := x.flat
  have q := x.key.1
  cases q with
  | tup h1 h2 h3 h4 =>
    cases h1.symm.trans g1
    cases h3.symm.trans g3
    obtain ⟨r1, r2⟩ := atoms_read h4 g4
    exact ⟨.tuple h1 h2 h3 r1, by simp [NestedKey.data, PyData.depth, r2]⟩
theorem each_refs {h : Heap} {T : Value → Rw → Prop} : ∀ (bs : List Rw), (∀ p ∈ bs, T (Value.ref p.1) p) → PySem.W.EachIs T (bs.map fun p => Value.ref p.1) bs
  | [], _ => .nil
  | p :: r, g => .cons (g p (by simp)) (each_refs (h := h) r fun q hq => g q (by simp [hq]))
theorem refs_each : ∀ {out : List Value} {bs : List Rw}, PySem.W.EachIs (fun v p => v = Value.ref p.1) out bs → out = bs.map fun p => Value.ref p.1
  | _, _, .nil => rfl
  | _, _, .cons e t => by rw [e, refs_each t]; rfl
theorem sorted_rows {a : Addr} {L : List Rw} {es : Array (Int × Value)} {ep : Nat} {t : SetTable} {Q : Value → Shared → Prop} (R : RowSet P w s.heap a L es ep t) (hh : A.handled = none) (hu : A.units + 12 < cLine) (hal : ∀ p ∈ L, ∀ q ∈ L, PySem.W.alike p.2.data q.2.data = true) (hne : ∀ p ∈ L, ∃ x r, p.2.data = .tuple (x :: r))
    (hQ : ∀ s' p (out : Array Value) (c : Nat) (L' : List Rw), (∀ b o, s.heap.get? b = some o → s'.heap.get? b = some o) → s'.gens = s.gens → s'.os = s.os → s.heap.objs.size ≤ p → s'.heap.get? p = some (seqObj "list" out c) → out.toList = L'.map (fun q => Value.ref q.1) → L'.Perm L → L'.Pairwise (fun q r => ltK r.2 q.2 = false) → Q (.ref p) s') :
    wpAny (model P w) A (call (.builtin "sorted") [.ref a]) Q E s := by
  obtain ⟨o, ho, hex, hd⟩ := R.obj
  have hb := R.below
  have hsz := ents_size R.ents
  refine Calls.call_function_entry kind_sorted plain_sorted entry_sorted (args_sorted1 _) ?_
  unfold Builtin.«sorted»
  refine wpAny_bind (m := checkCount "sorted" 1 1 _) (wpAny_pure ?_)
  refine wpAny_bind (collect_set (A := A.in1) hh ⟨o, ho, hex.1, hd⟩ R.fit (by unfold scanBound; omega) R.tabOk.ris R.ledOr fun s1 vs k1 hz1 g1 o1 pm => ?_)
  have hes : es.toList.map (·.2) = L.map fun q => Value.ref q.1 := by rw [R.ents, entriesN, List.map_map]; rfl
  rw [hes] at pm
  obtain ⟨bs, pb, rfl⟩ := perm_back pm L rfl
  have hbl : bs.length < 64 := by rw [pb.length_eq]; exact hb
  refine wpAny_bind (wpAny_newList ?_ (by rw [List.length_map, sizeLine_eq]; omega))
  have hoL : (s1.heap.push (seqObj "list" (bs.map fun q => Value.ref q.1).toArray 0)).get? s1.heap.objs.size = some (seqObj "list" (bs.map fun q => Value.ref q.1).toArray 0) := Heap.get?_push_size _ rfl
  have rowL : ∀ p ∈ bs, RowAt P w (s1.heap.push (seqObj "list" (bs.map fun q => Value.ref q.1).toArray 0)) p.2 p.1 := fun p hp => (R.row p (pb.mem_iff.mp hp)).keep fun b u e => Heap.get?_push_of_some _ (k1 b u e)
  refine wpAny_bind (wpAny_holding (PySem.W.list_sort_data (s := { s1 with heap := s1.heap.push (seqObj "list" (bs.map fun q => Value.ref q.1).toArray 0) }) (β := Rw) (enc := fun p => p.2.data) (R := fun v p => v = Value.ref p.1) (bs := bs) hoL (each_refs (h := s1.heap) bs fun p _ => rfl)
    (each_refs (h := s1.heap) bs fun p hp => ⟨[], (row_reads (rowL p hp)).1, by simp⟩) (fun d hd d' hd' => ?_) (.inl fun d hd => ?_) (by rw [sizeLine_eq]; omega) (fun p hp => by rw [(row_reads (rowL p hp)).2]; show A.units + 1 + 1 + 1 < cLine; omega) fun out ol oe => ?_))
  · obtain ⟨p, hp, rfl⟩ := List.mem_map.mp hd
    obtain ⟨q, hq, rfl⟩ := List.mem_map.mp hd'
    exact hal p (pb.mem_iff.mp hp) q (pb.mem_iff.mp hq)
  · obtain ⟨p, hp, rfl⟩ := List.mem_map.mp hd
    exact hne p (pb.mem_iff.mp hp)
  · obtain ⟨c, hc⟩ := sortedHeap_at (out := out.toArray) hoL
    refine wpAny_pure ⟨_, rfl, hQ _ s1.heap.objs.size out.toArray c (bs.mergeSort (PySem.W.dataLe false fun p => p.2.data)) (fun b u e => ?_) g1 o1 hz1 hc (by rw [List.toList_toArray]; exact refs_each oe) ((List.mergeSort_perm _ _).trans pb) ?_⟩
    · have q := k1 b u e
      have hlt := Heap.lt_size q
      show (sortedHeap (s1.heap.push (seqObj "list" (bs.map fun q => Value.ref q.1).toArray 0)) s1.heap.objs.size _ out.toArray).get? b = some u
      rw [sortedHeap_old (Nat.ne_of_lt hlt) (by rw [size_push']; exact Nat.lt_succ_of_lt hlt)]
      exact Heap.get?_push_of_some _ q
    · refine List.Pairwise.imp (fun {q r} hle => ?_) (PySem.W.sort_pairwise (PySem.W.sortLe_total (listOrd itemOrd) false fun p : Rw => PySem.W.keyToks p.2.data) bs)
      have e : (!ltK r.2 q.2) = true := hle
      simpa using e
end
end Z

/-! Z29: set(rows), sorted(it) as calls of the hand layer. -/
namespace Z
open PySem L2 PySem.Spec PyProof.Rows
def nk : Key → NestedKey
  | .inl i => .num i
  | .inr x => .text x
def rowK (ks : List Key) : NestedKey := .tup (ks.map nk)
theorem nk_inj {a b : Key} (h : nk a = nk b) : a = b := by
  cases a <;> cases b <;> simp only [nk] at h <;> first | (injection h with h; rw [h]) | cases h
theorem rowK_inj {a b : List Key} (h : rowK a = rowK b) : a = b := by
  unfold rowK at h
  injection h with h
  exact (List.map_inj_right fun _ _ e => nk_inj e).mp h
abbrev RwK := Addr × List Key
abbrev rwOf (p : RwK) : Rw := (p.1, rowK p.2)
theorem vals_atoms {h : Heap} : ∀ {ks : List Key} {us : List Value}, Vals (ks.map kV) us → NestedAll h (ks.map nk) us ∧ ∀ v ∈ us, AtomV v
  | [], _, .nil => ⟨.nil, by simp⟩
  | k :: ks, _, .cons r t => by
    obtain ⟨h1, h2⟩ := vals_atoms (h := h) t
    cases k with
    | inl i =>
      obtain ⟨tk, rfl⟩ := r
      exact ⟨.cons (.int i tk) h1, fun v hv => (List.mem_cons.mp hv).elim (fun e => e ▸ .inl ⟨i, tk, rfl⟩) (h2 v)⟩
    | inr x =>
      obtain ⟨tk, rfl⟩ := r
      exact ⟨.cons (.text x tk) h1, fun v hv => (List.mem_cons.mp hv).elim (fun e => e ▸ .inr ⟨x, tk, rfl⟩) (h2 v)⟩
theorem depth_nk : ∀ ks : List Key, NestedKey.depthAll (ks.map nk) = 0
  | [] => by simp [NestedKey.depthAll]
  | k :: ks => by cases k <;> simp [NestedKey.depthAll, NestedKey.depth, nk, depth_nk ks]
section
variable {X : Cx}
theorem inv_row {pins : List (Addr × Obj)} {σ : L2.St} {H : Hp} {s : Shared} {b : Addr} {k : List Key} (I : Inv X pins σ H s) (h : SqT X.K H b (k.map kV)) : RowAt X.prog X.w s.heap (rowK k) b := by
  obtain ⟨its, r, ⟨o, ho, hc, n, hd⟩, _⟩ := I.tuple h
  obtain ⟨h1, h2⟩ := vals_atoms (h := s.heap) r
  exact ⟨⟨.tup ho hc hd (by simpa using h1), by simp [rowK, NestedKey.depth, depth_nk]⟩, o, its.toArray, n, ho, hc, hd, by simpa using h2⟩
/-- the set at a, but for what the rows are -/
def RowS0 (P : Program) (w : World) (h : Heap) (a : Addr) (L : List Rw) : Prop := ∃ (es : Array (Int × Value)) (ep : Nat) (t : SetTable), (∃ o, h.get? a = some o ∧ o.ExactSet ∧ o.data = .set es ep t) ∧ es.toList = entriesN w L ∧ TabOk t (hashesN w L) ∧ (keysN L).Nodup ∧
  (w.params.followText "set-order" = true ∨ t.led = true) ∧ L.length * 5 < t.mask * 3 ∧ L.length < 64
def RowsO (P : Program) (w : World) (a : Addr) (L : List Rw) : HO := .ext fun h => RowS0 P w h a L
theorem RowSet.s0 {P : Program} {w : World} {h : Heap} {a : Addr} {L : List Rw} {es : Array (Int × Value)} {ep : Nat} {t : SetTable} (R : RowSet P w h a L es ep t) : RowS0 P w h a L := ⟨es, ep, t, R.obj, R.ents, R.tabOk, R.once, R.ledOr, R.space, R.below⟩
theorem rowsO_new {P : Program} {w : World} {H : Hp} {h : Heap} {a : Addr} {L : List Rw} (R : RowS0 P w h a L) : ObjOk P w H h a (RowsO P w a L) := by
  obtain ⟨es, ep, t, ⟨o, ho, r⟩, q⟩ := id R
  refine ⟨R, ⟨o, ho⟩, fun h1 h2 p k => ?_⟩
  obtain ⟨es', ep', t', ⟨o', ho', r'⟩, q'⟩ := p
  exact ⟨es', ep', t', ⟨o', k o' ho', r'⟩, q'⟩
theorem vals_rows : ∀ {ks : List RwK} {us : List Value}, Vals (ks.map fun p => V.ref p.1) us → us = (ks.map rwOf).map fun p => Value.ref p.1
  | [], _, .nil => rfl
  | p :: ks, _, .cons r t => by
    cases r
    rw [vals_rows t]; rfl
theorem rows_vals : ∀ (L : List Rw), Vals (L.map fun p => V.ref p.1) (L.map fun p => Value.ref p.1)
  | [] => .nil
  | p :: L => .cons rfl (rows_vals L)
/-- set(xs), xs a list or a tuple of rows -/
def rSetRows (X : Cx) : List V → Hp → VK → Prop := fun xs H Q => ∃ (l : Addr) (ks : List RwK), xs = [V.ref l] ∧ (SqL X.K H l (ks.map fun p => V.ref p.1) ∨ SqT X.K H l (ks.map fun p => V.ref p.1)) ∧ (∀ p ∈ ks, SqT X.K H p.1 (p.2.map kV)) ∧ ks.length < 64 ∧
  ∀ a L, H a = none → (∀ p ∈ L, p ∈ ks.map rwOf) → (∀ p ∈ ks, rowK p.2 ∈ keysN L) → Q (.ref a) (upd H a (RowsO X.prog X.w a L))
theorem cr_setRows (hc : X.calm = true) (hu : X.A.units + 64 < cLine) : CallR X (.type "set") (rSetRows X) := by
  intro pins s σ H xs us Q I r ⟨l, ks, e, hl, hk, hf, q⟩
  subst e
  rw [Vals.ref1 r]
  have hn : H s.heap.objs.size = none := I.hok.fresh (Nat.le_refl _)
  have rows : ∀ p ∈ ks.map rwOf, RowAt X.prog X.w s.heap p.2 p.1 := fun p hp => by
    obtain ⟨p0, h0, rfl⟩ := List.mem_map.mp hp
    exact inv_row I (hk p0 h0)
  have hf2 : (ks.map rwOf).length < 64 := by rw [List.length_map]; exact hf
  have fin : ∀ (h' : Heap) (tk : Nat) (L : List Rw) (es : Array (Int × Value)) (ep : Nat) (t : SetTable), RowSet X.prog X.w h' s.heap.objs.size L es ep t → Held (ks.map rwOf) (ks.map rwOf).length L → (∀ b o, s.heap.get? b = some o → h'.get? b = some o) → EP X pins σ Q (.ref s.heap.objs.size) { s with heap := h', toks := tk } := fun h' tk L es ep t R g k =>
    ⟨.ref s.heap.objs.size, upd H s.heap.objs.size (RowsO X.prog X.w s.heap.objs.size L), I.laid (t' := tk) k (Nat.le_refl _) (rowsO_new R.s0), rfl, q _ L hn (fun p hp => List.mem_of_mem_take (g.sub p hp)) fun p hp => g.all (rwOf p) (by rw [List.take_length]; exact List.mem_map.mpr ⟨p, hp, rfl⟩)⟩
  rcases hl with hl | hl
  · obtain ⟨its, rv, pl, _⟩ := I.list hl
    exact call_set_rows (ks.map rwOf) (I.ok.hd hc) pl.isList (by simpa using vals_rows rv) rows hf2 (by omega) fin
  · obtain ⟨its, rv, pt, _⟩ := I.tuple hl
    exact call_set_rowsT (ks.map rwOf) (I.ok.hd hc) (show s.heap.IsTuple l its.toArray from pt) (by simpa using vals_rows rv) rows hf2 (by omega) fin
/-- sorted(a set of rows) -/
def rSortRows (X : Cx) : List V → Hp → VK → Prop := fun vs H Q => ∃ (a : Addr) (L : List Rw), vs = [V.ref a] ∧ H a = some (RowsO X.prog X.w a L) ∧ (∀ p ∈ L, ∃ k, p.2 = rowK k ∧ SqT X.K H p.1 (k.map kV)) ∧ (∀ p ∈ L, ∀ q ∈ L, PySem.W.alike p.2.data q.2.data = true) ∧ (∀ p ∈ L, ∃ x r, p.2.data = .tuple (x :: r)) ∧
  ∀ (L' : List Rw) (p : Addr), L'.Perm L → (keysN L').Nodup → L'.Pairwise (fun q r => ltK r.2 q.2 = false) → H p = none → Q (.ref p) (upd H p (.lst (L'.map fun q => V.ref q.1)))
theorem cr_sortRows (hc : X.calm = true) (hu : X.A.units + 64 < cLine) : CallR X (.builtin "sorted") (rSortRows X) := by
  intro pins s σ H vs us Q I r ⟨a, L, e, ha, hk, hal, hne, q⟩
  subst e
  obtain ⟨es, ep, t, h1, h2, h3, h4, h5, h6, h7⟩ : RowS0 X.prog X.w s.heap a L := (I.hok a _ ha).1
  have R : RowSet X.prog X.w s.heap a L es ep t := ⟨h1, h2, h3, h4, fun p hp => by
    obtain ⟨k, e, hs⟩ := hk p hp
    rw [e]
    exact inv_row I hs, h5, h6, h7⟩
  rw [Vals.ref1 r]
  refine sorted_rows R (I.ok.hd hc) (by omega) hal hne fun s' p out c L' k g o hp hg hout pm pw => ?_
  have hlen : (L'.map fun q => V.ref q.1).length ≤ sizeLine := by rw [List.length_map, pm.length_eq, sizeLine_eq]; omega
  have hn : H p = none := I.hok.fresh hp
  have hv : Vals (L'.map fun q => V.ref q.1) out.toList := by rw [hout]; exact rows_vals L'
  have J : Inv X pins σ (upd H p (.lst (L'.map fun q => V.ref q.1))) { s with heap := s'.heap, gens := s'.gens, drawn := s'.drawn, toks := s'.toks } :=
    I.call (ch := []) (Un.laid k hp hn) (I.hok.laid k hp ⟨hlen, out.toList, c, hv, hg⟩) (by rw [g]; exact I.bare) (fun _ z => nomatch z)
  have e : s' = { s with heap := s'.heap, gens := s'.gens, drawn := s'.drawn, toks := s'.toks } := by
    cases s'
    cases s
    cases o
    rfl
  rw [e]
  exact ⟨.ref p, _, J, rfl, q L' p pm ((pm.map _).nodup_iff.mpr h4) pw hn⟩
end
end Z

/-! Z30: sorted(set(xs)), xs a list or a tuple of rows. -/
namespace Z
open PySem L2 PySem.Spec PyProof.Rows
def keyD : Key → D
  | .inl i => .int i
  | .inr x => .str x
def rowD (ks : List Key) : D := .tup (ks.map keyD)
def atomsD : List D → Option (List Key)
  | [] => some []
  | .int i :: ds => (atomsD ds).map (.inl i :: ·)
  | .str x :: ds => (atomsD ds).map (.inr x :: ·)
  | _ :: _ => none
def rowOfD : D → Option (List Key)
  | .tup ds => atomsD ds
  | _ => none
def rowsOfD : List D → Option (List (List Key))
  | [] => some []
  | d :: ds => (match rowOfD d, rowsOfD ds with
    | some k, some ks => some (k :: ks)
    | _, _ => none)
/-- a row ahead of another one; whether two can be compared -/
def ltR (a b : List Key) : Bool := ltK (rowK a) (rowK b)
def alikeR (a b : List Key) : Bool := PySem.W.alike (rowK a).data (rowK b).data
def insR (x : List Key) : List (List Key) → List (List Key)
  | [] => [x]
  | y :: ys => if ltR x y = true then x :: y :: ys else if ltR y x = true then y :: insR x ys else y :: ys
def sortR : List (List Key) → List (List Key)
  | [] => []
  | x :: xs => insR x (sortR xs)
theorem toks_inj {x y : PyData} (h : PySem.W.alike x y = true) (e : PySem.W.keyToks x = PySem.W.keyToks y) : PyData.eqv x y = true := by
  cases q : PyData.eqv x y with
  | true => rfl
  | false =>
    have t := (PySem.W.toks_eqv x y h).2 q [] [.inl 0]
    rw [List.append_nil, e, lex_irrefl] at t
    have u := PySem.W.lex_pre (PySem.W.keyToks y) [] [.inl 0]
    rw [List.append_nil] at u
    rw [u] at t
    cases t
theorem eqv_keys : ∀ {a b : List Key}, PyData.eqvAll (NestedKey.datas (a.map nk)) (NestedKey.datas (b.map nk)) = true → a = b
  | [], [], _ => rfl
  | [], _ :: _, h => by simp [NestedKey.datas, PyData.eqvAll] at h
  | _ :: _, [], h => by simp [NestedKey.datas, PyData.eqvAll] at h
  | x :: a, y :: b, h => by
    simp only [List.map_cons, NestedKey.datas, PyData.eqvAll, Bool.and_eq_true] at h
    rw [eqv_keys h.2]
    cases x <;> cases y <;> simp [nk, NestedKey.data, PyData.eqv] at h
    · rw [h.1]
    · rw [h.1]
theorem ltR_total {a b : List Key} (h : alikeR a b = true) (h1 : ltR a b = false) (h2 : ltR b a = false) : a = b := by
  have e := toks_inj h (lex_total _ _ h1 h2)
  simp only [rowK, NestedKey.data, PyData.eqv] at e
  exact eqv_keys e
theorem ltR_asym {a b : List Key} (h : ltR a b = true) : ltR b a = false := by
  cases q : ltR b a with
  | false => rfl
  | true =>
    have := ltK_trans h q
    rw [ltK_irr] at this
    cases this
theorem insR_mem {x z : List Key} : ∀ {l : List (List Key)}, (∀ y ∈ l, alikeR x y = true) → (z ∈ insR x l ↔ z = x ∨ z ∈ l)
  | [], _ => by simp [insR]
  | y :: ys, h => by
    unfold insR
    split
    · simp
    · rename_i q1
      split
      · have ih := insR_mem (z := z) (l := ys) fun u hu => h u (List.mem_cons_of_mem _ hu)
        rw [List.mem_cons, ih, List.mem_cons]
        exact ⟨fun e => e.elim (fun e => .inr (.inl e)) fun e => e.elim .inl fun e => .inr (.inr e), fun e => e.elim (fun e => .inr (.inl e)) fun e => e.elim .inl fun e => .inr (.inr e)⟩
      · rename_i q2
        have e := ltR_total (h y (by simp)) (by simpa using q1) (by simpa using q2)
        subst e
        simp
theorem insR_up {x : List Key} : ∀ {l : List (List Key)}, (∀ y ∈ l, alikeR x y = true) → l.Pairwise (fun a b => ltR a b = true) → (insR x l).Pairwise (fun a b => ltR a b = true)
  | [], _, _ => by simp [insR]
  | y :: ys, h, hp => by
    have hy := List.pairwise_cons.mp hp
    unfold insR
    split
    · rename_i q
      refine List.pairwise_cons.mpr ⟨fun z hz => ?_, hp⟩
      rcases List.mem_cons.mp hz with rfl | hz
      · exact q
      · exact ltK_trans q (hy.1 z hz)
    · split
      · rename_i q1 q
        refine List.pairwise_cons.mpr ⟨fun z hz => ?_, insR_up (fun u hu => h u (by simp [hu])) hy.2⟩
        rcases (insR_mem fun u hu => h u (by simp [hu])).mp hz with rfl | hz
        · exact q
        · exact hy.1 z hz
      · exact hp
theorem sortR_mem {z : List Key} : ∀ {l : List (List Key)}, (∀ x ∈ l, ∀ y ∈ l, alikeR x y = true) → (z ∈ sortR l ↔ z ∈ l)
  | [], _ => by simp [sortR]
  | x :: xs, h => by
    have ih : ∀ {z}, z ∈ sortR xs ↔ z ∈ xs := sortR_mem fun a ha b hb => h a (by simp [ha]) b (by simp [hb])
    simp only [sortR]
    rw [insR_mem fun y hy => h x (by simp) y (by simp [ih.mp hy]), ih, List.mem_cons]
theorem sortR_up : ∀ {l : List (List Key)}, (∀ x ∈ l, ∀ y ∈ l, alikeR x y = true) → (sortR l).Pairwise (fun a b => ltR a b = true)
  | [], _ => by simp [sortR]
  | x :: xs, h => by
    have h' : ∀ a ∈ xs, ∀ b ∈ xs, alikeR a b = true := fun a ha b hb => h a (by simp [ha]) b (by simp [hb])
    exact insR_up (fun y hy => h x (by simp) y (by simp [(sortR_mem h').mp hy])) (sortR_up h')
theorem one_order : ∀ {l m : List (List Key)}, l.Pairwise (fun a b => ltR a b = true) → m.Pairwise (fun a b => ltR a b = true) → (∀ z, z ∈ l ↔ z ∈ m) → l = m
  | [], [], _, _, _ => rfl
  | [], y :: m, _, _, h => by have := (h y).mpr (by simp); simp at this
  | x :: l, [], _, _, h => by have := (h x).mp (by simp); simp at this
  | x :: l, y :: m, h1, h2, h => by
    have p1 := List.pairwise_cons.mp h1
    have p2 := List.pairwise_cons.mp h2
    have e : x = y := by
      rcases List.mem_cons.mp ((h x).mp (by simp)) with a | a
      · exact a
      · rcases List.mem_cons.mp ((h y).mpr (by simp)) with b | b
        · exact b.symm
        · have := ltR_asym (p1.1 y b)
          rw [p2.1 x a] at this
          cases this
    subst e
    have irr : ltR x x = false := ltK_irr _
    rw [one_order p1.2 p2.2 fun z => ⟨fun hz => ?_, fun hz => ?_⟩]
    · rcases List.mem_cons.mp ((h z).mp (by simp [hz])) with rfl | q
      · have := p1.1 z hz; rw [irr] at this; cases this
      · exact q
    · rcases List.mem_cons.mp ((h z).mpr (by simp [hz])) with rfl | q
      · have := p2.1 z hz; rw [irr] at this; cases this
      · exact q
end Z

/-! Z31: sorted(set(xs)) of rows or of ints, as an expression. -/
namespace Z
open PySem L2 PySem.Spec
theorem atomsD_of : ∀ {ds : List D} {ks : List Key}, atomsD ds = some ks → ds = ks.map keyD
  | [], ks, h => by cases h; rfl
  | d :: ds, ks, h => by
    cases d <;> simp only [atomsD, Option.map_eq_some_iff, reduceCtorEq] at h
    · obtain ⟨ms, h1, rfl⟩ := h
      rw [atomsD_of h1]; rfl
    · obtain ⟨ms, h1, rfl⟩ := h
      rw [atomsD_of h1]; rfl
theorem vrs_atoms {K : PySem.W.Frag} {ρ : Pl} {H : Hp} : ∀ {vs : List V} {ks : List Key}, VRs K ρ H vs (ks.map keyD) → vs = ks.map kV
  | _, [], h => by cases h; rfl
  | _, k :: ks, h => by
    cases h with
    | cons r rs =>
      rw [vrs_atoms rs]
      cases k <;> (cases r; rfl)
theorem rowOfD_of {d : D} {k : List Key} (h : rowOfD d = some k) : d = rowD k := by
  cases d <;> simp only [rowOfD, reduceCtorEq] at h
  rw [atomsD_of h]; rfl
theorem rows_vrs {K : PySem.W.Frag} {ρ : Pl} {H : Hp} : ∀ {vs : List V} {ds : List D} {ks : List (List Key)}, VRs K ρ H vs ds → rowsOfD ds = some ks → ∃ M : List RwK, vs = M.map (fun p => V.ref p.1) ∧ M.map (fun p => p.2) = ks ∧ ∀ p ∈ M, SqT K H p.1 (p.2.map kV) ∧ VR K ρ H (.ref p.1) (rowD p.2)
  | _, _, ks, .nil, h => by cases h; exact ⟨[], rfl, rfl, by simp⟩
  | _, _, ks, .cons (ds := ds) r rs, h => by
    simp only [rowsOfD] at h
    split at h
    · rename_i k ms h1 h2
      cases h
      obtain ⟨M, e1, e2, e3⟩ := rows_vrs rs h2
      have e := rowOfD_of h1
      subst e
      obtain ⟨a, xs, rfl, g1, g2⟩ := tup_of r
      rw [vrs_atoms g2] at g1
      refine ⟨(a, k) :: M, by rw [e1]; rfl, by rw [← e2]; rfl, fun p hp => ?_⟩
      rcases List.mem_cons.mp hp with rfl | hp
      · exact ⟨g1, r⟩
      · exact e3 p hp
    · cases h
theorem vrs_of_rows {K : PySem.W.Frag} {ρ : Pl} {H : Hp} : ∀ (M : List RwK), (∀ p ∈ M, VR K ρ H (.ref p.1) (rowD p.2)) → VRs K ρ H (M.map fun p => V.ref p.1) (M.map fun p => rowD p.2)
  | [], _ => .nil
  | p :: M, h => .cons (h p (by simp)) (vrs_of_rows M fun q hq => h q (by simp [hq]))
theorem vrs_of_rw {K : PySem.W.Frag} {ρ : Pl} {H : Hp} (M : List RwK) (h : ∀ p ∈ M, VR K ρ H (.ref p.1) (rowD p.2)) : VRs K ρ H ((M.map rwOf).map fun q => V.ref q.1) ((M.map fun p => p.2).map rowD) := by
  rw [List.map_map, List.map_map]
  exact vrs_of_rows M h
theorem row_sq {K : PySem.W.Frag} {ρ : Pl} {H : Hp} {a : Addr} {k : List Key} (h : VR K ρ H (.ref a) (rowD k)) : SqT K H a (k.map kV) := by
  obtain ⟨a', xs, e, g1, g2⟩ := tup_of (show VR K ρ H (.ref a) (.tup (k.map keyD)) from h)
  cases e
  rw [vrs_atoms g2] at g1
  exact g1
theorem rows_among {ks : List RwK} : ∀ (L : List Rw), (∀ p ∈ L, p ∈ ks.map rwOf) → ∃ M : List RwK, L = M.map rwOf ∧ ∀ p ∈ M, p ∈ ks
  | [], _ => ⟨[], rfl, by simp⟩
  | p :: L, h => by
    obtain ⟨p0, h0, rfl⟩ := List.mem_map.mp (h p (by simp))
    obtain ⟨M, rfl, hM⟩ := rows_among L fun q hq => h q (by simp [hq])
    exact ⟨p0 :: M, rfl, fun q hq => (List.mem_cons.mp hq).elim (fun e => e ▸ h0) (hM q)⟩
/-- what must be true of the rows: few, none empty, each to be compared with each -/
def rowsOk (ks : List (List Key)) : Bool := decide (ks.length < 64) && ks.all fun a => !a.isEmpty && ks.all (alikeR a)
def dSortRows : D → Sto → R D := fun d S => match seqR d S with
  | some ds => match rowsOfD ds with
    | some ks => guardR (rowsOk ks = true) (.ok (.lst ((sortR ks).map rowD)) S)
    | none => .bad
  | none => .bad
theorem sorted_one {ks : List RwK} {L L' : List Rw} {M : List RwK} (hok : rowsOk (ks.map fun p => p.2) = true) (h1 : ∀ p ∈ L, p ∈ ks.map rwOf) (h2 : ∀ p ∈ ks, rowK p.2 ∈ keysN L) (pm : L'.Perm L) (nd : (keysN L').Nodup) (pw : L'.Pairwise fun q r => ltK r.2 q.2 = false) (e : L' = M.map rwOf) (hM : ∀ p ∈ M, p ∈ ks) :
    M.map (fun p => p.2) = sortR (ks.map fun p => p.2) := by
  simp only [rowsOk, Bool.and_eq_true, decide_eq_true_eq, List.all_eq_true] at hok
  have hal : ∀ x ∈ ks.map (fun p => p.2), ∀ y ∈ ks.map (fun p => p.2), alikeR x y = true := fun x hx => (hok.2 x hx).2
  subst e
  refine one_order ?_ (sortR_up hal) fun z => ?_
  · rw [List.pairwise_map] at pw ⊢
    have nd' : M.Pairwise fun p q => rowK p.2 ≠ rowK q.2 := by
      have : (M.map fun p => rowK p.2).Nodup := by simpa [keysN, List.map_map, Function.comp_def] using nd
      exact List.pairwise_map.mp this
    refine List.Pairwise.imp_of_mem (fun {p q} hp hq g => ?_) (pw.and nd')
    cases c : ltR p.2 q.2 with
    | true => rfl
    | false => exact absurd (congrArg rowK (ltR_total (hal _ (List.mem_map.mpr ⟨p, hM p hp, rfl⟩) _ (List.mem_map.mpr ⟨q, hM q hq, rfl⟩)) c g.1)) g.2
  · rw [sortR_mem hal]
    constructor
    · intro hz
      obtain ⟨p, hp, rfl⟩ := List.mem_map.mp hz
      exact List.mem_map.mpr ⟨p, hM p hp, rfl⟩
    · intro hz
      obtain ⟨p, hp, rfl⟩ := List.mem_map.mp hz
      have m1 := ((pm.map fun r : Rw => r.2).mem_iff (a := rowK p.2)).mpr (h2 p hp)
      obtain ⟨r, hr, er⟩ := List.mem_map.mp m1
      obtain ⟨p2, hp2, rfl⟩ := List.mem_map.mp hr
      exact List.mem_map.mpr ⟨p2, hp2, rowK_inj er⟩
section
variable {X : Cx} {W : WX} {e : Expr} {m : ME} {p p2 q pos : Pos}
theorem z_sortRows (hu : X.A.units + 100 < cLine) (hm : X.mg "sorted" = none) (hm2 : X.mg "set" = none) (he : PE X e (Em X.K W m)) (hc : X.calm = true := by rfl) (hg : Gl X "sorted" := by rfl) (hg2 : Gl X "set" := by rfl)
    (hs : starEach [e] X.env = (false, eval e X.env) :: starEach [] X.env := by rfl) (hs2 : starEach [.Call (.Name "set" p2) [e] [] q] X.env = (false, eval (.Call (.Name "set" p2) [e] [] q) X.env) :: starEach [] X.env := by rfl) (hpl : (backTo q (starEach [] X.env)).any (·.1) = false := by rfl) (hpl2 : (backTo pos (starEach [] X.env)).any (·.1) = false := by rfl) :
    PE X (.Call (.Name "sorted" p) [.Call (.Name "set" p2) [e] [] q] [] pos) (Em X.K W (mUn dSortRows m)) := by
  refine PE_imp (pe_callB (cr_sortRows hc (by omega)) hg hm PyProof.Rows.boot_sorted (pa_cons (pe_callTy (cr_setRows hc (by omega)) hg2 hm2 PyProof.Rows.boot_set (pa_cons he pa_nil hs) (he := hs) (hpl := hpl)) pa_nil hs2) (he := hs2) (hpl := hpl2)) fun σ H Q h => ?_
  obtain ⟨ρ, τ, S, s, r, p1⟩ := h
  refine Em_bind s r p1 fun ρ1 H1 S1 v d s1 r1 x1 v1 p1 => ?_
  unfold dSortRows at p1
  split at p1
  · rename_i ds e1
    obtain ⟨a, xs, rfl, h1, h2⟩ := seqR_of s1 v1 e1
    split at p1
    · rename_i kk e2
      obtain ⟨hok, p1⟩ := guardR_post p1
      obtain ⟨ks, rfl, rfl, hks⟩ := rows_vrs h2 e2
      have hok2 := hok
      simp only [rowsOk, Bool.and_eq_true, decide_eq_true_eq, List.all_eq_true] at hok2
      have hal : ∀ p ∈ ks, ∀ q ∈ ks, PySem.W.alike (rowK p.2).data (rowK q.2).data = true := fun p hp q hq => (hok2.2 p.2 (List.mem_map.mpr ⟨p, hp, rfl⟩)).2 q.2 (List.mem_map.mpr ⟨q, hq, rfl⟩)
      have hne : ∀ p ∈ ks, ∃ x r, (rowK p.2).data = .tuple (x :: r) := fun p hp => by
        have := (hok2.2 p.2 (List.mem_map.mpr ⟨p, hp, rfl⟩)).1
        cases q : p.2 with
        | nil => rw [q] at this; simp at this
        | cons k r => exact ⟨_, _, rfl⟩
      refine ⟨a, ks, rfl, h1, fun p hp => (hks p hp).1, by simpa using hok2.1, fun b L hb l1 l2 => ⟨b, L, rfl, upd_same, fun p hp => ?_, fun p hp q hq => ?_, fun p hp => ?_, fun L' c pm nd pw hc' => ?_⟩⟩
      · obtain ⟨p0, h0, rfl⟩ := List.mem_map.mp (l1 p hp)
        exact ⟨p0.2, rfl, row_sq (VR.mono (Ext.fresh (ρ := ρ1) hb) (hks p0 h0).2)⟩
      · obtain ⟨p0, h0, rfl⟩ := List.mem_map.mp (l1 p hp)
        obtain ⟨q0, g0, rfl⟩ := List.mem_map.mp (l1 q hq)
        exact hal p0 h0 q0 g0
      · obtain ⟨p0, h0, rfl⟩ := List.mem_map.mp (l1 p hp)
        exact hne p0 h0
      · obtain ⟨M, e, hM⟩ := rows_among L' fun p hp => l1 p (pm.mem_iff.mp hp)
        have es := sorted_one hok l1 l2 pm nd pw e hM
        subst e
        have xx := (Ext.fresh (ρ := ρ1) (o := RowsO X.prog X.w b L) hb).trans (Ext.fresh (o := .lst ((M.map rwOf).map fun q => V.ref q.1)) hc')
        refine p1 ρ1 _ _ xx ((s1.laid hb).laid hc') (.lst upd_same ((s1.laid hb).fresh hc') ?_)
        rw [← es]
        exact vrs_of_rw M fun p hp => VR.mono xx (hks p (hM p hp)).2
    · exact p1.elim
  · exact p1.elim
end
end Z

/-! Z32: dicts read: d[k], k in d, d.get(k), tests of texts. -/
namespace Z
open PySem L2

/-! ### rows of keys and things -/
section
variable {κ α : Type} [DecidableEq κ]
def valG (kvs : List (κ × α)) (k : κ) : Option α := (kvs.find? fun kv => decide (kv.1 = k)).map (·.2)
def putG (kvs : List (κ × α)) (k : κ) (v : α) : List (κ × α) :=
  if (kvs.any fun kv => decide (kv.1 = k)) = true then kvs.map (fun kv => if kv.1 = k then (kv.1, v) else kv) else kvs ++ [(k, v)]
def mergeG (kvs more : List (κ × α)) : List (κ × α) := more.foldl (fun acc kv => putG acc kv.1 kv.2) kvs
theorem valG_nil {k : κ} : valG ([] : List (κ × α)) k = none := rfl
theorem valG_cons {p : κ × α} {r : List (κ × α)} {k : κ} : valG (p :: r) k = if p.1 = k then some p.2 else valG r k := by
  unfold valG
  rw [List.find?_cons]
  by_cases e : p.1 = k <;> simp [e]
theorem any_valG {kvs : List (κ × α)} {k : κ} : (kvs.any fun kv => decide (kv.1 = k)) = (valG kvs k).isSome := by
  induction kvs with
  | nil => rfl
  | cons p r ih =>
    rw [List.any_cons, valG_cons, ih]
    by_cases e : p.1 = k <;> simp [e]
theorem putG_new {kvs : List (κ × α)} {k : κ} {v : α} (h : valG kvs k = none) : putG kvs k v = kvs ++ [(k, v)] := by
  unfold putG
  rw [any_valG, h]
  exact if_neg (by simp)
theorem valG_append {kvs more : List (κ × α)} {k : κ} : valG (kvs ++ more) k = (valG kvs k).or (valG more k) := by
  induction kvs with
  | nil => simp [valG_nil]
  | cons p r ih =>
    rw [List.cons_append, valG_cons, valG_cons, ih]
    by_cases e : p.1 = k <;> simp [e]
theorem valG_mem {kvs : List (κ × α)} {k : κ} {v : α} (h : valG kvs k = some v) : (k, v) ∈ kvs := by
  induction kvs with
  | nil => cases h
  | cons p r ih =>
    rw [valG_cons] at h
    by_cases e : p.1 = k
    · rw [if_pos e] at h; cases h; subst e; exact List.mem_cons_self
    · rw [if_neg e] at h; exact List.mem_cons_of_mem _ (ih h)
theorem valG_none_iff {kvs : List (κ × α)} {k : κ} : valG kvs k = none ↔ ∀ p ∈ kvs, p.1 ≠ k := by
  induction kvs with
  | nil => simp [valG_nil]
  | cons p r ih =>
    rw [valG_cons]
    by_cases e : p.1 = k
    · simp [e]
    · simp [e, ih]
end
section
variable {κ : Type} [DecidableEq κ] {P : V → D → Prop} {ws : List (κ × V)} {kvs : List (κ × D)} {k : κ}
/-- what two readings of a key say -/
def RelOD (P : V → D → Prop) : Option V → Option D → Prop
  | none, none => True
  | some v, some d => P v d
  | _, _ => False
theorem KR.val (h : KR P ws kvs) : RelOD P (valV ws k) (valG kvs k) := by
  induction h with
  | nil => exact True.intro
  | @cons k' v d vs ds h hs ih =>
    show RelOD P (valG ((k', v) :: vs) k) _
    rw [valG_cons, valG_cons]
    by_cases e : k' = k
    · rw [if_pos e, if_pos e]; exact h
    · rw [if_neg e, if_neg e]; exact ih
theorem RelOD.isSome {o : Option V} {u : Option D} (h : RelOD P o u) : o.isSome = u.isSome := by
  cases o <;> cases u <;> first | rfl | exact h.elim
theorem RelOD.get {o : Option V} {d : D} (h : RelOD P o (some d)) : ∃ v, o = some v ∧ P v d := by
  cases o with
  | none => exact h.elim
  | some v => exact ⟨v, rfl, h⟩
theorem KR.any (h : KR P ws kvs) : (ws.any fun kv => decide (kv.1 = k)) = kvs.any fun kv => decide (kv.1 = k) := by
  induction h with
  | nil => rfl
  | cons h hs ih => rw [List.any_cons, List.any_cons, ih]
theorem KR.app {ws' : List (κ × V)} {kvs' : List (κ × D)} (h : KR P ws kvs) (h' : KR P ws' kvs') : KR P (ws ++ ws') (kvs ++ kvs') := by
  induction h with
  | nil => exact h'
  | cons h hs ih => exact .cons h ih
theorem KR.putK {v : V} {d : D} (h : KR P ws kvs) (r : P v d) : KR P (L2.putK ws k v) (putG kvs k d) := by
  unfold L2.putK putG
  rw [h.any]
  split
  · rename_i hh
    clear hh
    induction h with
    | nil => exact .nil
    | @cons k' v' d' vs ds h hs ih =>
      rw [List.map_cons, List.map_cons]
      by_cases e : k' = k
      · simp only [e, if_true]; exact .cons r ih
      · simp only [e, if_false]; exact .cons h ih
  · exact h.app (.cons r .nil)
theorem KR.merge {ws : List (Key × V)} {kvs : List (Key × D)} {ms : List (Key × V)} {mds : List (Key × D)} (h : KR P ws kvs) (h' : KR P ms mds) : KR P (mergeK ws ms) (mergeG kvs mds) := by
  induction h' generalizing ws kvs with
  | nil => exact h
  | @cons k' v d vs ds r rs ih => exact ih (h.putK r)
end
theorem kr_zip {K : PySem.W.Frag} {ρ : Pl} {H : Hp} {κ : Type} : ∀ {ws : List (κ × V)} {ds : List D}, VRs K ρ H (ws.map (·.2)) ds → KR (VR K ρ H) ws (List.zip (ws.map (·.1)) ds)
  | [], ds, h => by cases h; exact .nil
  | p :: ws, ds, h => by
    cases h with
    | cons r rs => exact .cons r (kr_zip rs)

/-! ### what a dict holds -/
def kOf : D → Option Key
  | .int i => some (.inl i)
  | .str x => some (.inr x)
  | _ => none
theorem kOf_of {K : PySem.W.Frag} {ρ : Pl} {H : Hp} {v : V} {d : D} {k : Key} (r : VR K ρ H v d) (h : kOf d = some k) : v = kV k := by
  cases r <;> simp only [kOf, reduceCtorEq, Option.some.injEq] at h <;> subst h <;> rfl
theorem row_at {K : PySem.W.Frag} {ρ : Pl} {H : Hp} {v : V} {d : D} {k : List Key} (r : VR K ρ H v d) (h : rowOfD d = some k) : ∃ b, v = .ref b ∧ H b = some (.tup (k.map kV)) := by
  have e := rowOfD_of h
  subst e
  obtain ⟨a, xs, rfl, g1, g2⟩ := tup_at (show VR K ρ H v (.tup (k.map keyD)) from r)
  rw [vrs_atoms g2] at g1
  exact ⟨a, rfl, g1⟩
/-- what stands in the dict x at the key y: nothing said; not there; this -/
def dLook (x y : D) (S : Sto) : Option (Option D) := match x with
  | .loc l => (match S[l]? with
    | some (.dK _ kvs) => (kOf y).map fun k => valG kvs k
    | some (.dT _ kvs) => (rowOfD y).map fun k => valG kvs k
    | _ => none)
  | .dct ks ds => (kOf y).map fun k => valG (List.zip ks ds) k
  | _ => none
theorem dLook_of {K : PySem.W.Frag} {ρ : Pl} {H : Hp} {S : Sto} {x y : V} {dx dy : D} {o : Option D} (s : SR K ρ S H) (rx : VR K ρ H x dx) (ry : VR K ρ H y dy) (h : dLook dx dy S = some o) : ∃ a ov, x = .ref a ∧ DGet H a y ov ∧ RelOD (VR K ρ H) ov o := by
  cases rx with
  | dct h1 h2 hk hs =>
    simp only [dLook, Option.map_eq_some_iff] at h
    obtain ⟨k, e, rfl⟩ := h
    have := kOf_of ry e
    subst this
    exact ⟨_, _, rfl, DGet.k h1, by rw [← hk]; exact (kr_zip hs).val⟩
  | @loc a l hl =>
    simp only [dLook] at h
    split at h
    · rename_i lk kvs e
      simp only [Option.map_eq_some_iff] at h
      obtain ⟨k, ek, rfl⟩ := h
      have := kOf_of ry ek
      subst this
      have c := s.at hl e
      cases lk
      · obtain ⟨ws, h1, h2⟩ := c
        exact ⟨a, _, rfl, DGet.k h1, h2.val⟩
      · obtain ⟨o, ws, h1, h2⟩ := c
        exact ⟨a, valV ws k, rfl, .inl ⟨ws, k, .inr ⟨o, h1⟩, rfl, rfl⟩, h2.val⟩
    · rename_i lk kvs e
      simp only [Option.map_eq_some_iff] at h
      obtain ⟨k, ek, rfl⟩ := h
      obtain ⟨b, rfl, hb⟩ := row_at ry ek
      have c := s.at hl e
      cases lk
      · obtain ⟨ws, h1, h2⟩ := c
        exact ⟨a, _, rfl, DGet.t h1 hb, h2.val⟩
      · obtain ⟨o, ws, h1, h2⟩ := c
        exact ⟨a, valV ws k, rfl, .inr ⟨ws, k, b, .inr ⟨o, h1⟩, rfl, hb, rfl⟩, h2.val⟩
    · cases h
  | _ => simp [dLook] at h

/-! ### x[i], any x -/
def dIxA (x y : D) (S : Sto) : R D := match dLook x y S with
  | some o => ofO o S
  | none => dIx x y S
def rIxA (K : PySem.W.Frag) : R2 := fun x y H Q => rIx K x y H Q ∨ ∃ a v, x = .ref a ∧ DGet H a y (some v) ∧ Q v H
section
variable {X : Cx}
theorem ix_dict (hu : X.A.units + 100 < cLine) : IxR X (fun x y H Q => ∃ a v, x = .ref a ∧ DGet H a y (some v) ∧ Q v H) := by
  intro value slice pins s σ H x y v u Q I rx ry ⟨a, z, e, g, q⟩ hs
  subst e
  obtain rfl : v = Value.ref a := rx
  exact PyProof.Rows.tail_any (dict_typeIs I g) PySem.F.slot_dict_getitem.lookup (d_getItem (by omega) I g ry fun w' s' I' r => ⟨z, H, I', r, q⟩) hs
theorem ix_any (hu : X.A.units + 100 < cLine) : IxR X (rIxA X.K) := ix_seq.or (ix_dict hu)
theorem dIxA_ok {K : PySem.W.Frag} : OpS K dIxA (rIxA K) := fun Wk ρ S H x y dx dy Q s rx ry h => by
  unfold dIxA at h
  split at h
  · rename_i o e
    obtain ⟨d, e1, p⟩ := ofO_post h
    subst e1
    obtain ⟨a, ov, rfl, g, r⟩ := dLook_of s rx ry e
    obtain ⟨v, rfl, rv⟩ := r.get
    exact .inr ⟨a, v, rfl, g, p.here s rv⟩
  · exact .inl (dIx_ok Wk ρ S H x y dx dy Q s rx ry h)
variable {W : WX} {e a b : Expr} {ma mb : ME} {pos : Pos}
theorem z_ixA (hu : X.A.units + 100 < cLine) (ha : PE X a (Em X.K W ma)) (hb : PE X b (Em X.K W mb)) (hs : PlainIx b := by exact fun _ _ => rfl) : PE X (.Subscript a b pos) (Em X.K W (mBin dIxA ma mb)) :=
  PE_imp (pe_ix (ix_any hu) ha hb hs) fun σ H Q h => Em_op dIxA_ok h
end

/-! ### x in y, any y -/
/-- flat things as values -/
def flatD : D → Option V
  | .non => some .non
  | .bl b => some (.bl b)
  | .int i => some (.int i)
  | .str x => some (.str x)
  | _ => none
def flatDs : List D → Option (List V)
  | [] => some []
  | d :: ds => match flatD d, flatDs ds with
    | some v, some vs => some (v :: vs)
    | _, _ => none
theorem flatD_of {K : PySem.W.Frag} {ρ : Pl} {H : Hp} {v w : V} {d : D} (r : VR K ρ H v d) (h : flatD d = some w) : v = w ∧ flatV w = true := by
  cases r <;> simp only [flatD, reduceCtorEq, Option.some.injEq] at h <;> subst h <;> exact ⟨rfl, rfl⟩
theorem flatDs_of {K : PySem.W.Frag} {ρ : Pl} {H : Hp} : ∀ {vs ws : List V} {ds : List D}, VRs K ρ H vs ds → flatDs ds = some ws → vs = ws ∧ ws.all flatV = true
  | _, _, _, .nil, h => by simp only [flatDs, Option.some.injEq] at h; subst h; exact ⟨rfl, rfl⟩
  | _, _, _, .cons r rs, h => by
    simp only [flatDs] at h
    split at h
    · rename_i w ws h1 h2
      cases h
      obtain ⟨rfl, f1⟩ := flatD_of r h1
      obtain ⟨rfl, f2⟩ := flatDs_of rs h2
      exact ⟨rfl, by simp [f1] at f2 ⊢; exact f2⟩
    · cases h
/-- whether x is in y -/
def inP (x y : D) (S : Sto) : Option Bool := match dLook y x S with
  | some o => some o.isSome
  | none => (match x, y with
    | x, .ktup ds => (match flatD x, flatDs ds with
      | some v, some vs => some (inV v vs)
      | _, _ => none)
    | .str ⟨⟨[c]⟩⟩, .str z => some (decide (c ∈ z.cps.toList))
    | x, y => (match toPy x S, toPy y S with
      | some p, some q => if inB p q = true then some (inPy p q) else none
      | _, _ => none))
def dInA (x y : D) (S : Sto) : R D := ofO ((inP x y S).map .bl) S
def dNotInA (x y : D) (S : Sto) : R D := ofO ((inP x y S).map fun b => .bl (!b)) S
def rInA (X : Cx) (neg : Bool) : R2 := fun x y H Q => (∃ a o, y = .ref a ∧ DGet H a x o ∧ Q (.bl (if neg then !o.isSome else o.isSome)) H) ∨ rIn X.K neg x y H Q ∨
  (∃ (c : Nat) (z : Str), x = .str ⟨#[c]⟩ ∧ y = .str z ∧ Q (.bl (if neg then !decide (c ∈ z.cps.toList) else decide (c ∈ z.cps.toList))) H) ∨ rDat X InC (fun p q => if neg then !inPy p q else inPy p q) x y H Q
section
variable {X : Cx} (hu : X.A.units + 100 < cLine)
include hu
theorem op_inA : OpR X (compareOp .In) (rInA X false) := by
  refine OpR.or (r := fun x y H Q => ∃ a o, y = .ref a ∧ DGet H a x o ∧ Q (.bl o.isSome) H) ?_ (OpR.or op_in_seq (OpR.or op_in_sign (op_inP hu)))
  intro pins s σ H x y v u Q I rx ry ⟨a, o, e, g, q⟩
  subst e
  obtain rfl : u = Value.ref a := ry
  exact d_in (by omega) I g rx fun s' I' => ⟨.bl o.isSome, H, I', rfl, q⟩
theorem op_notInA : OpR X (compareOp .NotIn) (rInA X true) := by
  refine OpR.or (r := fun x y H Q => ∃ a o, y = .ref a ∧ DGet H a x o ∧ Q (.bl (!o.isSome)) H) ?_ (OpR.or op_notIn_seq (OpR.or op_notIn_sign (op_notInP hu)))
  intro pins s σ H x y v u Q I rx ry ⟨a, o, e, g, q⟩
  subst e
  obtain rfl : u = Value.ref a := ry
  exact d_notIn (by omega) I g rx fun s' I' => ⟨.bl (!o.isSome), H, I', rfl, q⟩
end
theorem inP_of {X : Cx} {ρ : Pl} {H : Hp} {S : Sto} {x y : V} {dx dy : D} {b : Bool} {neg : Bool} {Q : VK} (s : SR X.K ρ S H) (rx : VR X.K ρ H x dx) (ry : VR X.K ρ H y dy) (h : inP dx dy S = some b) (q : Q (.bl (if neg then !b else b)) H) : rInA X neg x y H Q := by
  unfold inP at h
  split at h
  · rename_i o e
    obtain ⟨a, ov, rfl, g, r⟩ := dLook_of s ry rx e
    cases h
    exact .inl ⟨a, ov, rfl, g, by rw [r.isSome]; exact q⟩
  · split at h
    · split at h
      · rename_i v vs h1 h2
        cases h
        obtain ⟨p, xs, rfl, g1, g2⟩ := ktup_of ry
        obtain ⟨rfl, f1⟩ := flatD_of rx h1
        obtain ⟨rfl, f2⟩ := flatDs_of g2 h2
        exact .inr (.inl ⟨p, xs, rfl, .inr g1, f1, f2, q⟩)
      · cases h
    · cases h
      cases rx; cases ry
      exact .inr (.inr (.inl ⟨_, _, rfl, rfl, q⟩))
    · split at h
      · rename_i p r h1 h2
        split at h
        · rename_i c
          cases h
          exact .inr (.inr (.inr ⟨p, r, rdP_of s rx h1, rdP_of s ry h2, inB_C _ _ c, q⟩))
        · cases h
      · cases h
theorem c_inA {X : Cx} (hu : X.A.units + 100 < cLine) : CmpZ X .In dInA := ⟨_, op_inA hu, fun Wk ρ S H x y dx dy Q s rx ry h => by
  obtain ⟨z, e, p⟩ := ofO_post h
  simp only [Option.map_eq_some_iff] at e
  obtain ⟨b, e1, rfl⟩ := e
  exact inP_of s rx ry e1 (p.here s (.bl _))⟩
theorem c_ninA {X : Cx} (hu : X.A.units + 100 < cLine) : CmpZ X .NotIn dNotInA := ⟨_, op_notInA hu, fun Wk ρ S H x y dx dy Q s rx ry h => by
  obtain ⟨z, e, p⟩ := ofO_post h
  simp only [Option.map_eq_some_iff] at e
  obtain ⟨b, e1, rfl⟩ := e
  exact inP_of s rx ry e1 (p.here s (.bl _))⟩

/-! ### d.get(k), d.get(k, x) -/
def dGet1 : D → List D → Sto → R D
  | d, [y], S => (match dLook d y S with
    | some o => .ok (o.getD .non) S
    | none => .bad)
  | _, _, _ => .bad
def dGet2 : D → List D → Sto → R D
  | d, [y, z], S => (match dLook d y S with
    | some o => .ok (o.getD z) S
    | none => .bad)
  | _, _, _ => .bad
def rGet2 : V → List V → Hp → VK → Prop := fun x vs H Q => ∃ a y z o, x = .ref a ∧ vs = [y, z] ∧ DGet H a y o ∧ Q (o.getD z) H
section
variable {X : Cx} {W : WX} {o e f : Expr} {m : ME} {ms : MA} {apos cpos : Pos}
theorem mt_get2 (hu : X.A.units + 100 < cLine) : MtR X "dict.get" rGet2 := by
  intro pins s σ H x xs v us Q I rx rs ⟨a, y, z, o, e1, e2, g, q⟩
  subst e1 e2
  obtain rfl : v = Value.ref a := rx
  obtain ⟨u, w, rfl, ru, rw'⟩ := Vals.two rs
  exact d_get2 (by omega) I g ru rw' fun w' s' I' r => ⟨_, H, I', r, q⟩
theorem dGet2_ok {K : PySem.W.Frag} : MethS K dGet2 rGet2 := fun Wk ρ S H v d vs ds Q s r rs h => by
  unfold dGet2 at h
  split at h
  · obtain ⟨y, z, rfl, ry, rz⟩ := vrs2 rs
    split at h
    · rename_i o e
      obtain ⟨a, ov, rfl, g, r2⟩ := dLook_of s r ry e
      refine ⟨a, y, z, ov, rfl, rfl, g, h.here s ?_⟩
      cases ov <;> cases o <;> first | exact rz | exact r2 | exact r2.elim
    · exact h.elim
  · exact h.elim
end
end Z

/-! Z33: dicts written: displays, d[k] = v, d.update(e); targets of several kinds. -/
namespace Z
open PySem L2 PySem.Spec

/-! ### stores -/
def dPut (a k y : D) (S : Sto) : Option Sto := match a with
  | .loc l => (match S[l]? with
    | some (.lst ds) => (match k with
      | .int n => (ixN ds.length n).map fun j => S.set l (.lst (ds.set j y))
      | _ => none)
    | some (.dK false kvs) => if kvs.length < sizeLine then (kOf k).map fun kk => S.set l (.dK false (putG kvs kk y)) else none
    | some (.dT false kvs) => if kvs.length < sizeLine then (rowOfD k).map fun kk => S.set l (.dT false (putG kvs kk y)) else none
    | _ => none)
  | _ => none
def rSetA : V → V → V → Hp → (Hp → Prop) → Prop := fun o i v H Q => rSetL o i v H Q ∨ ∃ a H', o = .ref a ∧ DPut H a i v H' ∧ Q H'
theorem set_any {X : Cx} (hu : X.A.units + 100 < cLine) : PSet X rSetA := by
  intro pins s σ H o i v ov iv u Q I ro ri rv h
  rcases h with h | ⟨a, H', e, g, q⟩
  · exact set_list pins s σ H o i v ov iv u Q I ro ri rv h
  · subst e
    obtain rfl : ov = Value.ref a := ro
    exact d_setItem (by omega) I g ri rv fun s' I' => ⟨H', I', q⟩
theorem dPut_of {K : PySem.W.Frag} {ρ : Pl} {H : Hp} {S S' : Sto} {a k y : V} {da dk dy : D} {Q : Hp → Prop} (s : SR K ρ S H) (ra : VR K ρ H a da) (rk : VR K ρ H k dk) (ry : VR K ρ H y dy) (h : dPut da dk dy S = some S')
    (q : ∀ H', Ext ρ H ρ H' → SR K ρ S' H' → Q H') : rSetA a k y H Q := by
  cases ra with
  | @loc p l hl =>
    simp only [dPut] at h
    split at h
    · rename_i ds e
      split at h
      · rename_i n
        simp only [Option.map_eq_some_iff] at h
        obtain ⟨j, ej, rfl⟩ := h
        cases rk
        obtain ⟨xs, k1, k2⟩ := s.at hl e
        exact .inl ⟨p, xs, _, j, rfl, rfl, k1, by rw [k2.length]; exact ej, q _ (Ext.set hl (.of k1)) (s.set hl ⟨_, upd_same, (k2.set ry j).mono (Ext.set hl (.of k1))⟩)⟩
      · cases h
    · rename_i kvs e
      split at h
      · rename_i hz
        simp only [Option.map_eq_some_iff] at h
        obtain ⟨kk, ek, rfl⟩ := h
        have := kOf_of rk ek
        subst this
        obtain ⟨ws, k1, k2⟩ := s.at hl e
        have x : Ext ρ H ρ (upd H p (.dK (putK ws kk y))) := Ext.set hl (.of k1)
        exact .inr ⟨p, _, rfl, DPut.k k1 (by rw [k2.length]; exact hz), q _ x (s.set hl ⟨_, upd_same, (k2.putK ry).mono fun _ _ r => VR.mono x r⟩)⟩
      · cases h
    · rename_i kvs e
      split at h
      · rename_i hz
        simp only [Option.map_eq_some_iff] at h
        obtain ⟨kk, ek, rfl⟩ := h
        obtain ⟨b, rfl, hb⟩ := row_at rk ek
        obtain ⟨ws, k1, k2⟩ := s.at hl e
        have x : Ext ρ H ρ (upd H p (.dT (putK ws kk y))) := Ext.set hl (.of k1)
        exact .inr ⟨p, _, rfl, DPut.t k1 hb (by rw [k2.length]; exact hz), q _ x (s.set hl ⟨_, upd_same, (k2.putK ry).mono fun _ _ r => VR.mono x r⟩)⟩
      · cases h
    · cases h
  | _ => simp [dPut] at h

/-! ### targets -/
inductive TgS where
  | nm (i : Nat) | sub (o i : ME)
def asgS : TgS → D → Tau → Sto → (Tau → Sto → RS) → RS
  | .nm i, d, τ, S, k => k (τ.set i (some d)) S
  | .sub o i, d, τ, S, k => liftS (o τ S) τ fun a S2 => liftS (i τ S2) τ fun x S3 => match dPut a x d S3 with
    | some S4 => k τ S4
    | none => .bad
def asgAll : List TgS → List D → MS
  | [], [], τ, S => .nx τ S
  | t :: ts, d :: ds, τ, S => asgS t d τ S fun τ' S' => asgAll ts ds τ' S'
  | _, _, _, _ => .bad
/-- d[k] = v -/
def sSubA (o i v : ME) : MS := fun τ S => liftS (v τ S) τ fun y S1 => asgS (.sub o i) y τ S1 fun τ S => .nx τ S
/-- a, b[c], .. = e -/
def sTupS (ts : List TgS) (m : ME) : MS := fun τ S => liftS (m τ S) τ fun d S1 => match d with
  | .tup ds => if ds.length = ts.length then asgAll ts ds τ S1 else .bad
  | _ => .bad
def gS (K : PySem.W.Frag) (W : WX) : TgS → TG
  | .nm i => gName i
  | .sub o i => gSub (Em K W o) (Em K W i) rSetA
def gSs (K : PySem.W.Frag) (W : WX) : List TgS → TGs
  | [] => gNil
  | t :: ts => gCons (gS K W t) (gSs K W ts)
section
variable {K : PySem.W.Frag} {W : WX}
theorem asgS_of {t : TgS} {d : D} {v : V} {τ : Tau} {S : Sto} {σ : St} {H : Hp} {ρ : Pl} {k : Tau → Sto → RS} {D' : Ends} {Q : St → Hp → Prop} (s : SR K ρ S H) (r : ER K ρ H τ σ) (rv : VR K ρ H v d) (h : PostS K W ρ H σ (asgS t d τ S k) D')
    (q : ∀ ρ1 H1 τ1 S1 σ1, Ext ρ H ρ1 H1 → SR K ρ1 S1 H1 → ER K ρ1 H1 τ1 σ1 → PostS K W ρ1 H1 σ1 (k τ1 S1) D' → Q σ1 H1) : gS K W t v σ H Q := by
  cases t with
  | nm i => exact q ρ H _ S _ Ext.refl s (r.set i rv) h
  | sub o i =>
    refine Em_S (k := fun _ _ => .bad) s r h fun ρ1 H1 S1 a da s1 r1 e1 v1 p1 => ?_
    refine Em_S (k := fun _ _ => .bad) s1 r1 p1 fun ρ2 H2 S2 x dx s2 r2 e2 v2 p2 => ?_
    split at p2
    · rename_i S4 e
      exact dPut_of s2 (v1.mono e2) v2 ((rv.mono e1).mono e2) e fun H' e3 s3 => q ρ2 H' τ S4 σ ((e1.trans e2).trans e3) s3 (r2.mono e3) (PostS.ext e3 p2)
    · exact p2.elim
theorem asgAll_of : ∀ {ts : List TgS} {ds : List D} {vs : List V} {τ : Tau} {S : Sto} {σ : St} {H : Hp} {ρ : Pl} {D' : Ends}, SR K ρ S H → ER K ρ H τ σ → VRs K ρ H vs ds → PostS K W ρ H σ (asgAll ts ds τ S) D' → gSs K W ts vs σ H D'.nx
  | [], [], _, _, _, _, _, _, _, s, r, rs, h => by
    cases rs
    exact ⟨rfl, PostS.here h s r⟩
  | [], _ :: _, _, _, _, _, _, _, _, s, r, rs, h => h.elim
  | _ :: _, [], _, _, _, _, _, _, _, s, r, rs, h => h.elim
  | t :: ts, d :: ds, _, τ, S, σ, H, ρ, D', s, r, .cons rv rs, h =>
    ⟨_, _, rfl, asgS_of s r rv h fun ρ1 H1 τ1 S1 σ1 e1 s1 r1 p1 => asgAll_of s1 r1 (rs.mono e1) p1⟩
end
section
variable {X : Cx} {W : WX} {e tg o i v : Expr} {m mo mi mv : ME} {pos pos' : Pos}
theorem pgs_sub {o i : Expr} {es : List Expr} {mo mi : ME} {u : TGs} (hu : X.A.units + 100 < cLine) (ho : PE X o (Em X.K W mo)) (hi : PE X i (Em X.K W mi)) (hr : PGs X es u)
    (ha : ∀ z, assign (.Subscript o i pos) X.env z = (do
      let ov ← holding [z] (eval o X.env)
      let iv ← holding [z, ov] (eval i X.env)
      standAt pos
      holding [z, ov, iv] (setItem ov iv z)
      release [z, ov, iv] []) := by intro _; rfl) : PGs X (.Subscript o i pos :: es) (gCons (gS X.K W (.sub mo mi)) u) := pgs_cons (pg_sub ho hi (set_any hu) ha) hr
theorem pgs_nm {x : Str} {es : List Expr} {i : Nat} {u : TGs} (hN : X.N.Nodup) (hi : X.N[i]? = some x) (hx : Loc X.env.scope x) (hr : PGs X es u) (hf : X.fn x = true ∨ X.env.scope.names.lookup x = some .local := by first | exact .inl rfl | exact .inr rfl | assumption) : PGs X (.Name x pos :: es) (gCons (gS X.K W (.nm i)) u) := pgs_cons (pg_name hN hi hx hf) hr
theorem s_subA (hu : X.A.units + 100 < cLine) (ho : PE X o (Em X.K W mo)) (hi : PE X i (Em X.K W mi)) (hv : PE X v (Em X.K W mv)) (ha : ∀ z, assign (.Subscript o i pos') X.env z = (do
      let ov ← holding [z] (eval o X.env)
      let iv ← holding [z, ov] (eval i X.env)
      standAt pos'
      holding [z, ov, iv] (setItem ov iv z)
      release [z, ov, iv] []) := by intro _; rfl) (hs : swapsWithSole [.Subscript o i pos'] v pos.line X.env = pure false := by rfl) (hw : swappedStores [.Subscript o i pos'] v X.env = pure none := by rfl)
    (h1 : (assignEach [.Subscript o i pos'] X.env).map (·.2) = [assign (.Subscript o i pos') X.env] := by rfl) : PS X (.Assign [.Subscript o i pos'] v pos) (Sm X.K W (sSubA mo mi mv)) :=
  PS_imp (ps_asg hv (pg_sub ho hi (set_any hu) ha) hs hw h1) fun D σ H ⟨ρ, τ, S, s, r, p⟩ =>
    Em_S (k := fun _ _ => .bad) s r p fun ρ1 H1 S1 y dy s1 r1 e1 v1 p1 => asgS_of (t := .sub mo mi) s1 r1 v1 p1 fun ρ2 H2 τ2 S2 σ2 e2 s2 r2 p2 => PostS.here p2 s2 r2
theorem s_tupS {ts : List TgS} {es : List Expr} {kk : Nat} {tpos : Pos} (he : PE X e (Em X.K W m)) (hg : PGs X es (gSs X.K W ts)) (hc : X.calm = true := by rfl) (hn : (assignEach es X.env).length = ts.length := by rfl) (hst : (assignEach es X.env).findIdx? (·.1) = none := by rfl)
    (hs : swapsWithSole [.Tuple es kk tpos] e pos.line X.env = pure false := by rfl) (hw : swappedStores [.Tuple es kk tpos] e X.env = pure none := by rfl)
    (h1 : (assignEach [.Tuple es kk tpos] X.env).map (·.2) = [assign (.Tuple es kk tpos) X.env] := by rfl) : PS X (.Assign [.Tuple es kk tpos] e pos) (Sm X.K W (sTupS ts m)) :=
  PS_imp (ps_asg he (pg_tup hc hg hn hst) hs hw h1) fun D σ H ⟨ρ, τ, S, s, r, p⟩ =>
    Em_S (k := fun _ _ => .bad) s r p fun ρ1 H1 S1 y dy s1 r1 e1 v1 p1 => by
      split at p1
      · split at p1
        · rename_i hl
          obtain ⟨a, xs, rfl, h1, h2⟩ := tup_of v1
          exact ⟨a, xs, rfl, h1, by rw [h2.length]; exact hl, asgAll_of s1 r1 h2 p1⟩
        · exact p1.elim
      · exact p1.elim
end

/-! ### displays -/
section
variable {K : PySem.W.Frag} {ρ ρ' : Pl} {H : Hp} {S : Sto}
mutual
/-- fewer addresses are the store's, the places stand -/
theorem VR.sub (hm : ∀ a, a ∈ ρ' → a ∈ ρ) (hl : ∀ (l : Nat) a, ρ.loc[l]? = some a → ρ'.loc[l]? = some a) : ∀ {v : V} {d : D}, VR K ρ H v d → VR K ρ' H v d
  | _, _, .non => .non
  | _, _, .bl b => .bl b
  | _, _, .int i => .int i
  | _, _, .str x => .str x
  | _, _, .tup h h2 hs => .tup h (fun z => h2 (hm _ z)) (VRs.sub hm hl hs)
  | _, _, .ktup h hs => .ktup h (VRs.sub hm hl hs)
  | _, _, .lst h h2 hs => .lst h (fun z => h2 (hm _ z)) (VRs.sub hm hl hs)
  | _, _, .dct h h2 hk hs => .dct h (fun z => h2 (hm _ z)) hk (VRs.sub hm hl hs)
  | _, _, .scr h hs => .scr (h.imp (fun ⟨o, h1, h2⟩ => ⟨o, h1, fun z => h2 (hm _ z)⟩) id) (VRs.sub hm hl hs)
  | _, _, .loc h => .loc (hl _ _ h)
  | _, _, .ob v => .ob v
  | _, _, .fn h => .fn h
theorem VRs.sub (hm : ∀ a, a ∈ ρ' → a ∈ ρ) (hl : ∀ (l : Nat) a, ρ.loc[l]? = some a → ρ'.loc[l]? = some a) : ∀ {vs : List V} {ds : List D}, VRs K ρ H vs ds → VRs K ρ' H vs ds
  | _, _, .nil => .nil
  | _, _, .cons h hs => .cons (VR.sub hm hl h) (VRs.sub hm hl hs)
end
def Pl.show (ρ : Pl) (p : Addr) : Pl := (ρ.bare p).push p
theorem Pl.show_mem {p : Addr} (hp : p ∈ ρ.hid) : ∀ a, a ∈ ρ.show p → a ∈ ρ := fun a h => by
  rcases h with h | h
  · rcases List.mem_append.mp (show a ∈ ρ.loc ++ [p] from h) with z | z
    · exact .inl z
    · have : a = p := by simpa using z
      subst this; exact .inr hp
  · exact .inr (List.mem_filter.mp h).1
theorem Pl.show_loc {p : Addr} : ∀ (l : Nat) a, ρ.loc[l]? = some a → (ρ.show p).loc[l]? = some a := fun l a h => by
  show (ρ.loc ++ [p])[l]? = some a
  rw [List.getElem?_append_left (List.getElem?_eq_some_iff.mp h).1]; exact h
theorem SR.show (r : SR K ρ S H) {p : Addr} {c : C} (hp : p ∈ ρ.hid) (hc : CR K (ρ.show p) H p c) : SR K (ρ.show p) (S ++ [c]) H := by
  refine ⟨by simp [Pl.show, Pl.push, Pl.bare, r.len], ?_, fun a ha => ?_, fun l d e => ?_⟩
  · show (ρ.loc ++ [p]).Nodup
    rw [List.nodup_append]
    refine ⟨r.nd, by simp, fun a ha b hb => ?_⟩
    have : b = p := by simpa using hb
    subst this
    rintro rfl
    exact (r.hd _ hp).1 ha
  · obtain ⟨ha1, ha2⟩ := List.mem_filter.mp (show a ∈ ρ.hid.filter _ from ha)
    obtain ⟨h1, u, hu, n'⟩ := r.hd a ha1
    refine ⟨fun q => ?_, u, hu, n'⟩
    rcases List.mem_append.mp (show a ∈ ρ.loc ++ [p] from q) with z | z
    · exact h1 z
    · exact of_decide_eq_true ha2 (by simpa using z)
  · by_cases hl : l < S.length
    · rw [List.getElem?_append_left hl] at e
      obtain ⟨a, h1, h2⟩ := r.cell l d e
      refine ⟨a, Pl.show_loc _ _ h1, h2.map (fun _ _ => VR.sub (Pl.show_mem hp) Pl.show_loc) (fun _ _ => VRs.sub (Pl.show_mem hp) Pl.show_loc) (fun c o e _ z => ⟨e, fun y => z (Pl.show_mem hp _ y)⟩) rfl⟩
    · have e2 : l = S.length := by
        have := (List.getElem?_eq_some_iff.mp e).1
        simp at this; omega
      subst e2
      rw [List.getElem?_append_right (Nat.le_refl _)] at e
      simp at e
      subst e
      refine ⟨p, ?_, hc⟩
      show (ρ.loc ++ [p])[S.length]? = some p
      rw [← r.len, List.getElem?_append_right (Nat.le_refl _)]; simp
theorem Pl.show_get {p : Addr} (r : SR K ρ S H) : (ρ.show p).loc[S.length]? = some p := by
  show (ρ.loc ++ [p])[S.length]? = some p
  rw [← r.len, List.getElem?_append_right (Nat.le_refl _)]; simp
theorem Ext.show {ρ0 : Pl} {H0 : Hp} {p : Addr} (e : Ext ρ0 H0 ρ H) (h0 : H0 p = none) (hn : p ∉ ρ0.hid) : Ext ρ0 H0 (ρ.show p) H := ⟨by
  obtain ⟨r, h⟩ := e.pre
  exact ⟨r ++ [p], by show ρ.loc ++ [p] = _; rw [h]; simp⟩, fun a q => List.mem_filter.mpr ⟨e.hid a q, decide_eq_true (by rintro rfl; exact hn q)⟩, fun a q => by
  rcases List.mem_append.mp (show a ∈ ρ.loc ++ [p] from q) with z | z
  · exact e.newL a z
  · have : a = p := by simpa using z
    subst this; exact .inr (.none h0), fun a q => e.newH a (List.mem_filter.mp q).1, e.keep, e.live, e.frz⟩
end
def pairsR : List (ME × ME) → Tau → Sto → R (List (Key × D))
  | [], _, S => .ok [] S
  | p :: r, τ, S => (p.1 τ S).bind fun x S1 => (p.2 τ S1).bind fun y S2 => (pairsR r τ S2).bind fun ps S3 => match kOf x with
    | some k => .ok ((k, y) :: ps) S3
    | none => .bad
abbrev dispOk (kvs : List (Key × D)) : Prop := kvs.length ≤ 15 ∧ (kvs.map (·.1)).Nodup
def mDisp (ps : List (ME × ME)) : ME := fun τ S => (pairsR ps τ S).bind fun kvs S1 => guardR (dispOk kvs) (.ok (.dct (kvs.map (·.1)) (kvs.map (·.2))) S1)
/-- a dict that will be changed -/
def mDispN (ps : List (ME × ME)) : ME := fun τ S => (pairsR ps τ S).bind fun kvs S1 => guardR (dispOk kvs) (.ok (.loc S1.length) (S1 ++ [.dK false kvs]))
theorem mergeK_self : ∀ {ws : List (Key × V)}, (ws.map (·.1)).Nodup → mergeK [] ws = ws := by
  have main : ∀ (ws acc : List (Key × V)), ((acc ++ ws).map (·.1)).Nodup → mergeK acc ws = acc ++ ws := by
    intro ws
    induction ws with
    | nil => intro acc _; exact (List.append_nil _).symm
    | cons p r ih =>
      intro acc h
      have e : valV acc p.1 = none := by
        refine (valG_none_iff (kvs := acc)).mpr fun q hq z => ?_
        rw [List.map_append, List.nodup_append] at h
        exact h.2.2 q.1 (List.mem_map.mpr ⟨q, hq, rfl⟩) p.1 (by simp) z
      show mergeK (putK acc p.1 p.2) r = _
      rw [putK_new _ e, ih _ (by simpa using h)]
      simp
  intro ws h
  exact main ws [] (by simpa using h)
theorem KR.keys {κ : Type} {P : V → D → Prop} : ∀ {ws : List (κ × V)} {kvs : List (κ × D)}, KR P ws kvs → ws.map (·.1) = kvs.map (·.1)
  | _, _, .nil => rfl
  | _, _, .cons _ hs => by simp [KR.keys hs]
theorem KR.vals {K : PySem.W.Frag} {ρ : Pl} {H : Hp} {κ : Type} : ∀ {ws : List (κ × V)} {kvs : List (κ × D)}, KR (VR K ρ H) ws kvs → VRs K ρ H (ws.map (·.2)) (kvs.map (·.2))
  | _, _, .nil => .nil
  | _, _, .cons h hs => .cons h (KR.vals hs)
theorem pairs_of {K : PySem.W.Frag} {W : WX} {A' B' : Type} {rel' : Pl → Hp → B' → A' → Prop} {Q : B' → Hp → Prop} {τ : Tau} {σ : St} {ρ0 : Pl} {H0 : Hp} : ∀ {ps : List (ME × ME)} {f : List (Key × D) → Sto → R A'} {ρ : Pl} {S : Sto} {H : Hp} {Q1 : List (V × V) → Hp → Prop}, SR K ρ S H → ER K ρ H τ σ → Ext ρ0 H0 ρ H → Post K (fun c d H' => W c d σ H') ρ0 H0 ((pairsR ps τ S).bind f) rel' Q →
    (∀ ρ1 H1 S1 kvs ws, SR K ρ1 S1 H1 → Ext ρ H ρ1 H1 → KR (VR K ρ1 H1) ws kvs → Post K (fun c d H' => W c d σ H') ρ0 H0 (f kvs S1) rel' Q → Q1 (ws.map fun kv => (kV kv.1, kv.2)) H1) → tPairs (ps.map fun p => (Em K W p.1, Em K W p.2)) σ H Q1
  | [], f, ρ, S, H, Q1, s, r, e0, p, k => k ρ H S [] [] s Ext.refl .nil p
  | q :: ps, f, ρ, S, H, Q1, s, r, e0, p, k => by
    have bb : ∀ {A B C : Type} (o : R A) (g : A → Sto → R B) (h : B → Sto → R C), (o.bind g).bind h = o.bind fun a S => (g a S).bind h := by
      intro A B C o g h; cases o <;> rfl
    simp only [pairsR, bb] at p
    refine ⟨ρ, τ, S, s, r, ?_⟩
    cases q1 : q.1 τ S with
    | bad => rw [q1] at p; exact p.elim
    | ex c fs S' => rw [q1] at p; exact Post.ext e0 p
    | ok x S1 =>
      rw [q1] at p
      simp only [R.bind_ok] at p
      intro ρ1 H1 v e1 s1 v1
      refine ⟨ρ1, τ, S1, s1, r.mono e1, ?_⟩
      cases q2 : q.2 τ S1 with
      | bad => rw [q2] at p; exact p.elim
      | ex c fs S' => rw [q2] at p; exact Post.ext (e0.trans e1) p
      | ok y S2 =>
        rw [q2] at p
        simp only [R.bind_ok] at p
        intro ρ2 H2 w e2 s2 v2
        refine pairs_of (ps := ps) s2 ((r.mono e1).mono e2) ((e0.trans e1).trans e2) p fun ρ3 H3 S3 kvs ws s3 e3 k3 p3 => ?_
        cases q3 : kOf x with
        | none => rw [q3] at p3; exact p3.elim
        | some kk =>
          rw [q3] at p3
          have := kOf_of v1 q3
          subst this
          exact k ρ3 H3 S3 _ ((kk, w) :: ws) s3 ((e1.trans e2).trans e3) (.cons (v2.mono e3) k3) p3
section
variable {X : Cx} {W : WX} {pos : Pos} {keys : List (Option Expr)} {values : List Expr} {ps : List (ME × ME)}
theorem pps0 : PPs X pos [] [] (([] : List (ME × ME)).map fun p => (Em X.K W p.1, Em X.K W p.2)) := pps_nil
theorem pps1 {k v : Expr} {mk mv : ME} (hk : PE X k (Em X.K W mk)) (hv : PE X v (Em X.K W mv)) (hr : PPs X pos keys values (ps.map fun p => (Em X.K W p.1, Em X.K W p.2))) : PPs X pos (some k :: keys) (v :: values) (((mk, mv) :: ps).map fun p => (Em X.K W p.1, Em X.K W p.2)) := pps_cons hk hv hr
theorem z_disp (h : PPs X pos keys values (ps.map fun p => (Em X.K W p.1, Em X.K W p.2))) (hall : keys.all (·.isSome) = true := by rfl) (hl : keys.length = values.length := by rfl) (h0 : keys ≠ [] := by (intro z; cases z)) (h15 : keys.length ≤ 15 := by decide) : PE X (.Dict keys values pos) (Em X.K W (mDisp ps)) :=
  PE_imp (pe_disp h hall hl h0 h15) fun σ H Q ⟨ρ, τ, S, s, r, q⟩ => fun p hp => by
    have e0 : Ext ρ H (ρ.hide p) (upd H p (.dK [])) := Ext.hide hp
    have hn : p ∉ ρ.hid := fun z => s.fresh hp (.inr z)
    refine pairs_of (s.hide hp) (r.mono e0) e0 q fun ρ1 H1 S1 kvs ws s1 e1 k1 p1 => ?_
    obtain ⟨⟨g1, g2⟩, p1⟩ := guardR_post p1
    have d1 : p ∈ ρ1.hid := e1.hid _ List.mem_cons_self
    have hD : H1 p = some (.dK []) := e1.keep _ _ upd_same (by (intro ps z; cases z)) fun z => s.fresh hp (.inl z)
    refine ⟨hD, ws, rfl, by rw [k1.length]; exact g1, ?_⟩
    have k2 : KR (VR X.K ρ1 (upd H1 p (.dK ws))) ws kvs := k1.mono fun _ _ z => VR.rehide (.inr d1) z
    have s2 : SR X.K ρ1 S1 (upd H1 p (.dK ws)) := s1.rehide d1
    rw [mergeK_self (by rw [k1.keys]; exact g2)]
    refine p1 (ρ1.bare p) _ _ (((e0.trans e1).bare hn).rehide hp) s2.unhide (.dct upd_same (fun z => ?_) k1.keys (VRs.unhide k2.vals))
    rcases z with z | z
    · exact (s2.hd p d1).1 z
    · exact of_decide_eq_true (List.mem_filter.mp z).2 rfl
theorem z_dispN (h : PPs X pos keys values (ps.map fun p => (Em X.K W p.1, Em X.K W p.2))) (hall : keys.all (·.isSome) = true := by rfl) (hl : keys.length = values.length := by rfl) (h0 : keys ≠ [] := by (intro z; cases z)) (h15 : keys.length ≤ 15 := by decide) : PE X (.Dict keys values pos) (Em X.K W (mDispN ps)) :=
  PE_imp (pe_disp h hall hl h0 h15) fun σ H Q ⟨ρ, τ, S, s, r, q⟩ => fun p hp => by
    have e0 : Ext ρ H (ρ.hide p) (upd H p (.dK [])) := Ext.hide hp
    have hn : p ∉ ρ.hid := fun z => s.fresh hp (.inr z)
    refine pairs_of (s.hide hp) (r.mono e0) e0 q fun ρ1 H1 S1 kvs ws s1 e1 k1 p1 => ?_
    obtain ⟨⟨g1, g2⟩, p1⟩ := guardR_post p1
    have d1 : p ∈ ρ1.hid := e1.hid _ List.mem_cons_self
    have hD : H1 p = some (.dK []) := e1.keep _ _ upd_same (by (intro ps z; cases z)) fun z => s.fresh hp (.inl z)
    refine ⟨hD, ws, rfl, by rw [k1.length]; exact g1, ?_⟩
    have k2 : KR (VR X.K ρ1 (upd H1 p (.dK ws))) ws kvs := k1.mono fun _ _ z => VR.rehide (.inr d1) z
    have s2 : SR X.K ρ1 S1 (upd H1 p (.dK ws)) := s1.rehide d1
    rw [mergeK_self (by rw [k1.keys]; exact g2)]
    have k3 : KR (VR X.K (ρ1.show p) (upd H1 p (.dK ws))) ws kvs := k2.mono fun _ _ z => VR.sub (Pl.show_mem d1) Pl.show_loc z
    exact p1 (ρ1.show p) _ _ (((e0.trans e1).rehide hp).show hp hn) (s2.show d1 ⟨ws, upd_same, k3⟩) (.loc (Pl.show_get s2))
end

/-! ### d.update(e) -/
def dUpdate : D → List D → Sto → R D
  | .loc l, [.dct ks ds], S => (match S[l]? with
    | some (.dK false kvs) => guardR (kvs.length + ks.length ≤ sizeLine) (.ok .non (S.set l (.dK false (mergeG kvs (List.zip ks ds)))))
    | _ => .bad)
  | _, _, _ => .bad
def rUpdate : V → List V → Hp → VK → Prop := fun x vs H Q => ∃ (a b : Addr) (ws ms : List (Key × V)), x = .ref a ∧ vs = [.ref b] ∧ a ≠ b ∧ H a = some (.dK ws) ∧ H b = some (.dK ms) ∧ ws.length + ms.length ≤ sizeLine ∧ Q .non (upd H a (.dK (mergeK ws ms)))
theorem mt_update {X : Cx} : MtR X "dict.update" rUpdate := by
  intro pins s σ H x xs v us Q I rx rs ⟨a, b, ws, ms, e1, e2, hne, ha, hb, hz, q⟩
  subst e1 e2
  obtain rfl : v = Value.ref a := rx
  obtain ⟨u, rfl, ru⟩ := Vals.one rs
  obtain rfl : u = Value.ref b := ru
  obtain ⟨z1, hd1, vs1, rel1, dd1⟩ := dk_of I.hok ha
  obtain ⟨z2, hd2, vs2, rel2, dd2⟩ := dk_of I.hok hb
  refine call_meetsIn PySem.F.slot_dict_update dd1.typeIs PySem.F.entry_dict_update (PySem.F.args_dict_update_2 _ _) (meets_dict_update (mixKind X.prog X.w) a b hne hd2)
    ⟨vs1, vs2, dd1, dd2, by rw [← rel1.length, ← rel2.length]; exact hz, fun h' dd' _ hs => ⟨.non, _, ?_, rfl, q⟩⟩
  have he : ∃ q, h'.get? a = some q := let ⟨q, _, _, hq, _⟩ := dd'; ⟨q, hq⟩
  have hl : (mergeK ws ms).length ≤ sizeLine := Nat.le_trans (length_mergeK ms ws) hz
  exact d_write I (by rw [ha]; exact True.intro) hs he (dk_new hl hd1 (rel2.merge rel1) dd')
theorem dUpdate_ok {K : PySem.W.Frag} : MethS K dUpdate rUpdate := fun Wk ρ S H v d vs ds Q s r rs h => by
  unfold dUpdate at h
  split at h
  · obtain ⟨y, rfl, ry⟩ := vrs1 rs
    split at h
    · rename_i kvs e
      obtain ⟨hz, h⟩ := guardR_post h
      cases r with
      | @loc a _ hl =>
        obtain ⟨ws, k1, k2⟩ := s.at hl e
        cases ry with
        | @dct b ms _ _ h1 h2 hk hs =>
          have hne : a ≠ b := by rintro rfl; exact h2 (.inl (List.mem_of_getElem? hl))
          have hlen := congrArg List.length hk
          rw [List.length_map] at hlen
          refine ⟨a, b, ws, ms, rfl, rfl, hne, k1, h1, by rw [k2.length, hlen]; exact hz, ?_⟩
          have x : Ext ρ H ρ (upd H a (.dK (mergeK ws ms))) := Ext.set hl (.of k1)
          refine h ρ _ _ x (s.set hl ⟨_, upd_same, ?_⟩) .non
          rw [← hk]
          exact (k2.merge (kr_zip hs)).mono fun _ _ z => VR.mono x z
    · exact h.elim
  · exact h.elim
end Z

/-! Z34: walks over dicts (locked), while. -/
namespace Z
open PySem L2 PySem.Spec

/-! ### locks -/
/-- the dict at the place l is locked -/
def lockC : C → Option C
  | .dK false kvs => some (.dK true kvs)
  | .dT false kvs => some (.dT true kvs)
  | _ => none
noncomputable def unlockS (l : Nat) (c c' : C) : RS → RS
  | .nx τ S => if keepB [(l, c')] S = true then .nx τ (S.set l c) else .bad
  | .rt d S => if keepB [(l, c')] S = true then .rt d (S.set l c) else .bad
  | .bk τ S => if keepB [(l, c')] S = true then .bk τ (S.set l c) else .bad
  | .ct τ S => if keepB [(l, c')] S = true then .ct τ (S.set l c) else .bad
  | .ex τ n fs S => .ex τ n fs S
  | .bad => .bad
noncomputable def unlockR {A : Type} (l : Nat) (c c' : C) : R A → R A
  | .ok d S => if keepB [(l, c')] S = true then .ok d (S.set l c) else .bad
  | .ex n fs S => .ex n fs S
  | .bad => .bad
def locL {A : Type} (o : R D) (S : Sto) (k : Nat → C → C → A) (b : A) : A := match o with
  | .ok (.loc l) _ => (match S[l]? with
    | some c => (match lockC c with
      | some c' => k l c c'
      | none => b)
    | none => b)
  | _ => b
/-- st, run while the dict that m tells is locked -/
noncomputable def sLock (m : ME) (st : MS) : MS := fun τ S => locL (m τ S) S (fun l c c' => unlockS l c c' (st τ (S.set l c'))) .bad
noncomputable def mLock (m : ME) (e : ME) : ME := fun τ S => locL (m τ S) S (fun l c c' => unlockR l c c' (e τ (S.set l c'))) .bad
section
variable {K : PySem.W.Frag} {W : WX} {ρ ρ' : Pl} {H H' : Hp} {S S' : Sto} {τ : Tau} {σ : St}
/-- a dict is locked -/
theorem lock_at {l : Nat} {a : Addr} {c c' : C} (s : SR K ρ S H) (hl : ρ.loc[l]? = some a) (hc : S[l]? = some c) (e : lockC c = some c') : ∃ u, H a = some u ∧ Mut (some u) ∧ (∀ o v, u ≠ .frz o v) ∧ NT u ∧ ∀ od, SR K ρ (S.set l c') (upd H a (.frz od u)) ∧
    ∀ (ρ' : Pl) (H' : Hp) (S' : Sto), Ext ρ (upd H a (.frz od u)) ρ' H' → SR K ρ' S' H' → S'[l]? = some c' → H' a = some (.frz od u) ∧ Ext ρ H ρ' (upd H' a u) ∧ SR K ρ' (S'.set l c) (upd H' a u) := by
  have c0 := s.at hl hc
  have hp : a ∈ ρ := .inl (List.mem_of_getElem? hl)
  have main : ∀ u, H a = some u → (∀ o v, u ≠ .frz o v) → NT u → (∀ od, CR K ρ (upd H a (.frz od u)) a c') → (∀ (ρ' : Pl) (H' : Hp) od, CR K ρ' H' a c' → H' a = some (.frz od u) → a ∈ ρ' → CR K ρ' (upd H' a u) a c) → ∀ od, SR K ρ (S.set l c') (upd H a (.frz od u)) ∧
      ∀ (ρ' : Pl) (H' : Hp) (S' : Sto), Ext ρ (upd H a (.frz od u)) ρ' H' → SR K ρ' S' H' → S'[l]? = some c' → H' a = some (.frz od u) ∧ Ext ρ H ρ' (upd H' a u) ∧ SR K ρ' (S'.set l c) (upd H' a u) := by
    intro u hu nf nt c1 c2 od
    refine ⟨s.set hl (c1 od) (by intro ps z; cases z), fun ρ' H' S' e s' hS => ?_⟩
    have hf : H' a = some (.frz od u) := e.frz a od u upd_same
    have hl' : ρ'.loc[l]? = some a := e.get hl
    refine ⟨hf, ⟨e.pre, e.hid, fun p q => (e.newL p q).imp id fun z x y => ?_, fun p q => (e.newH p q).imp id fun z x y => ?_, fun b o q n hb => ?_, fun b q => ?_, fun b o v q => ?_⟩, s'.set hl' (c2 ρ' H' od (s'.at hl' hS) hf (.inl (List.mem_of_getElem? hl'))) nt⟩
    · by_cases hh : p = a
      · subst hh; exact (z.no upd_same (by intro ps z; cases z)).elim
      · exact z x (by rw [upd_ne hh]; exact y)
    · by_cases hh : p = a
      · subst hh; exact (z.no upd_same (by intro ps z; cases z)).elim
      · exact z x (by rw [upd_ne hh]; exact y)
    · have hh : b ≠ a := by rintro rfl; exact hb (List.mem_of_getElem? hl)
      rw [upd_ne hh]
      exact e.keep b o (by rw [upd_ne hh]; exact q) n hb
    · by_cases hh : b = a
      · subst hh; exact (q.no upd_same nt).elim
      · intro o z
        exact e.live b (fun o z => q o (by rw [upd_ne hh]; exact z)) o (by rw [upd_ne hh]; exact z)
    · have hh : b ≠ a := by rintro rfl; rw [hu] at q; exact nf _ _ (Option.some.inj q)
      rw [upd_ne hh]
      exact e.frz b o v (by rw [upd_ne hh]; exact q)
  cases c with
  | dK lk kvs =>
    cases lk <;> simp only [lockC, reduceCtorEq, Option.some.injEq] at e
    subst e
    obtain ⟨ws, h1, h2⟩ := c0
    refine ⟨.dK ws, h1, True.intro, by (intro o v z; cases z), by (intro ps z; cases z), main _ h1 (by intro o v z; cases z) (by intro ps z; cases z) (fun od => ⟨od, ws, upd_same, h2.mono fun _ _ r => VR.rehide hp r⟩) fun ρ' H' od cc hf hp' => ?_⟩
    obtain ⟨o, ws', g1, g2⟩ := cc
    rw [hf] at g1
    cases g1
    exact ⟨ws, upd_same, g2.mono fun _ _ r => VR.rehide hp' r⟩
  | dT lk kvs =>
    cases lk <;> simp only [lockC, reduceCtorEq, Option.some.injEq] at e
    subst e
    obtain ⟨ws, h1, h2⟩ := c0
    refine ⟨.dT ws, h1, True.intro, by (intro o v z; cases z), by (intro ps z; cases z), main _ h1 (by intro o v z; cases z) (by intro ps z; cases z) (fun od => ⟨od, ws, upd_same, h2.mono fun _ _ r => VR.rehide hp r⟩) fun ρ' H' od cc hf hp' => ?_⟩
    obtain ⟨o, ws', g1, g2⟩ := cc
    rw [hf] at g1
    cases g1
    exact ⟨ws, upd_same, g2.mono fun _ _ r => VR.rehide hp' r⟩
  | _ => simp [lockC] at e
end
section
variable {X : Cx} {W : WX} {st : Stmt} {e : Expr} {m me : ME} {ms : MS}
theorem keep1 {l : Nat} {c : C} {S : Sto} : keepB [(l, c)] S = true ↔ S[l]? = some c := keepB_iff.trans ⟨fun h => h (l, c) (by simp), fun h p hp => by
  have : p = (l, c) := by simpa using hp
  subst this; exact h⟩
theorem s_lock (h : PS X st (Sm X.K W ms)) : PS X st (Sm X.K W (sLock m ms)) := PS_imp (ps_lock h) fun D σ H ⟨ρ, τ, S, s, r, p⟩ => by
  unfold sLock locL at p
  split at p
  · rename_i l S0 q0
    split at p
    · rename_i c hc
      split at p
      · rename_i c' ec
        obtain ⟨a, hl, _⟩ := s.cell l c hc
        obtain ⟨u, hu, mu, nf, nt, hlk⟩ := lock_at s hl hc ec
        refine ⟨a, u, hu, mu, fun od => ?_⟩
        obtain ⟨s1, back⟩ := hlk od
        have x0 : Ext ρ H ρ (upd H a (.frz od u)) := Ext.set hl (.of hu nf)
        refine ⟨ρ, τ, S.set l c', s1, r.mono x0, ?_⟩
        simp only [] at p
        cases q : ms τ (S.set l c') with
        | bad => rw [q] at p; exact p.elim
        | ex τ' n fs S' =>
          rw [q] at p
          exact fun ρ' σ' H' dd e' s' r' x' => p ρ' σ' H' dd (x0.trans e') s' r' x'
        | nx τ' S' =>
          rw [q] at p
          simp only [unlockS] at p
          split at p
          · rename_i hk
            intro ρ' σ' H' e' s' r'
            obtain ⟨g1, g2, g3⟩ := back ρ' H' S' e' s' (keep1.mp hk)
            have hp : a ∈ ρ' := .inl (List.mem_of_getElem? (e'.get hl))
            exact ⟨g1, p ρ' σ' _ g2 g3 ⟨r'.1, fun i d z => let ⟨v, z1, z2⟩ := r'.2 i d z; ⟨v, z1, VR.rehide hp z2⟩⟩⟩
          · exact p.elim
        | bk τ' S' =>
          rw [q] at p
          simp only [unlockS] at p
          split at p
          · rename_i hk
            intro ρ' σ' H' e' s' r'
            obtain ⟨g1, g2, g3⟩ := back ρ' H' S' e' s' (keep1.mp hk)
            have hp : a ∈ ρ' := .inl (List.mem_of_getElem? (e'.get hl))
            exact ⟨g1, p ρ' σ' _ g2 g3 ⟨r'.1, fun i d z => let ⟨v, z1, z2⟩ := r'.2 i d z; ⟨v, z1, VR.rehide hp z2⟩⟩⟩
          · exact p.elim
        | ct τ' S' =>
          rw [q] at p
          simp only [unlockS] at p
          split at p
          · rename_i hk
            intro ρ' σ' H' e' s' r'
            obtain ⟨g1, g2, g3⟩ := back ρ' H' S' e' s' (keep1.mp hk)
            have hp : a ∈ ρ' := .inl (List.mem_of_getElem? (e'.get hl))
            exact ⟨g1, p ρ' σ' _ g2 g3 ⟨r'.1, fun i d z => let ⟨v, z1, z2⟩ := r'.2 i d z; ⟨v, z1, VR.rehide hp z2⟩⟩⟩
          · exact p.elim
        | rt d S' =>
          rw [q] at p
          simp only [unlockS] at p
          split at p
          · rename_i hk
            intro ρ' H' v e' s' v'
            obtain ⟨g1, g2, g3⟩ := back ρ' H' S' e' s' (keep1.mp hk)
            have hp : a ∈ ρ' := .inl (List.mem_of_getElem? (e'.get hl))
            exact ⟨g1, p ρ' _ v g2 g3 (VR.rehide hp v')⟩
          · exact p.elim
      · exact p.elim
    · exact p.elim
  · exact p.elim
theorem z_lock (h : PE X e (Em X.K W me)) : PE X e (Em X.K W (mLock m me)) := PE_imp (pe_lock h) fun σ H Q ⟨ρ, τ, S, s, r, p⟩ => by
  unfold mLock locL at p
  split at p
  · rename_i l S0 q0
    split at p
    · rename_i c hc
      split at p
      · rename_i c' ec
        obtain ⟨a, hl, _⟩ := s.cell l c hc
        obtain ⟨u, hu, mu, nf, nt, hlk⟩ := lock_at s hl hc ec
        refine ⟨a, u, hu, mu, fun od => ?_⟩
        obtain ⟨s1, back⟩ := hlk od
        have x0 : Ext ρ H ρ (upd H a (.frz od u)) := Ext.set hl (.of hu nf)
        refine ⟨ρ, τ, S.set l c', s1, r.mono x0, ?_⟩
        simp only [] at p
        cases q : me τ (S.set l c') with
        | bad => rw [q] at p; exact p.elim
        | ex n fs S' =>
          rw [q] at p
          exact fun ρ' H' dd e' s' x' => p ρ' H' dd (x0.trans e') s' x'
        | ok d S' =>
          rw [q] at p
          simp only [unlockR] at p
          split at p
          · rename_i hk
            intro ρ' H' v e' s' v'
            obtain ⟨g1, g2, g3⟩ := back ρ' H' S' e' s' (keep1.mp hk)
            have hp : a ∈ ρ' := .inl (List.mem_of_getElem? (e'.get hl))
            exact ⟨g1, p ρ' _ v g2 g3 (VR.rehide hp v')⟩
          · exact p.elim
      · exact p.elim
    · exact p.elim
  · exact p.elim
end

/-! ### what a locked dict gives -/
def pairD (p : Key × D) : D := .tup [keyD p.1, p.2]
def valsOf : D → Sto → Option Items
  | .loc l, S => (match S[l]? with
    | some (.dK true kvs) => some ⟨kvs.map (·.2), [(l, .dK true kvs)]⟩
    | _ => none)
  | _, _ => none
def itemsOfD : D → Sto → Option Items
  | .loc l, S => (match S[l]? with
    | some (.dK true kvs) => some ⟨kvs.map pairD, [(l, .dK true kvs)]⟩
    | _ => none)
  | _, _ => none
def iVal (m : ME) : MI := fun τ S => (m τ S).bind fun d S1 => ofO (valsOf d S1) S1
def iItm (m : ME) : MI := fun τ S => (m τ S).bind fun d S1 => ofO (itemsOfD d S1) S1
section
variable {K : PySem.W.Frag} {ρ0 : Pl} {H0 : Hp}
/-- the locked dict stands as it was all along -/
theorem locked_at {l : Nat} {a : Addr} {od : Obj} {ws : List (Key × V)} {kvs : List (Key × D)} {ρ : Pl} {H : Hp} {S : Sto} (hl : ρ0.loc[l]? = some a) (h0 : H0 a = some (.frz od (.dK ws))) (e : Ext ρ0 H0 ρ H) (s : SR K ρ S H) (k : keepOk [(l, .dK true kvs)] S) :
    H a = some (.frz od (.dK ws)) ∧ KR (VR K ρ H) ws kvs := by
  have h1 := e.frz _ _ _ h0
  obtain ⟨o, ws', g1, g2⟩ := s.at (e.get hl) (k (l, .dK true kvs) (by simp))
  rw [h1] at g1
  cases g1
  exact ⟨h1, g2⟩
theorem KR.getV {κ : Type} {P : V → D → Prop} : ∀ {ws : List (κ × V)} {kvs : List (κ × D)} {i : Nat} {k : κ} {v : V}, KR P ws kvs → ws[i]? = some (k, v) → ∃ d, kvs[i]? = some (k, d) ∧ P v d
  | _, _, _, _, _, .nil, h => by simp at h
  | _, _, 0, _, _, .cons r _, h => by simp at h; obtain ⟨rfl, rfl⟩ := h; exact ⟨_, rfl, r⟩
  | _, _, i + 1, k, v, .cons _ rs, h => by
    obtain ⟨d, h1, h2⟩ := KR.getV (i := i) rs (by simpa using h)
    exact ⟨d, by simpa using h1, h2⟩
theorem KR.get {κ : Type} {P : V → D → Prop} : ∀ {ws : List (κ × V)} {kvs : List (κ × D)} {i : Nat}, KR P ws kvs → i < kvs.length → ∃ p, ws[i]? = some p := fun h hi => ⟨_, List.getElem?_eq_getElem (by rw [h.length]; exact hi)⟩
theorem iter_vals {l : Nat} {a : Addr} {od : Obj} {ws : List (Key × V)} {kvs : List (Key × D)} (hl : ρ0.loc[l]? = some a) (h0 : H0 a = some (.frz od (.dK ws))) : IterOK K ρ0 H0 (Itd a od ws) ⟨kvs.map (·.2), [(l, .dK true kvs)]⟩ := fun ρ H S e s k => by
  obtain ⟨h1, h2⟩ := locked_at hl h0 e s k
  have hn := h2.length
  refine ⟨fun i hi => ⟨h1, by simp at hi; omega⟩, ⟨h1, by simp; omega⟩, fun i x H' hi y => ?_⟩
  obtain ⟨rfl, kk, y2⟩ := y
  obtain ⟨d, g1, g2⟩ := h2.getV y2
  exact ⟨d, by simp [g1], Ext.refl, s, g2⟩
theorem vr_key {ρ : Pl} {H : Hp} (k : Key) : VR K ρ H (kV k) (keyD k) := by
  cases k with
  | inl i => exact .int i
  | inr x => exact .str x
theorem iter_items {l : Nat} {a : Addr} {od : Obj} {ws : List (Key × V)} {kvs : List (Key × D)} (hl : ρ0.loc[l]? = some a) (h0 : H0 a = some (.frz od (.dK ws))) : IterOK K ρ0 H0 (Iti a od ws) ⟨kvs.map pairD, [(l, .dK true kvs)]⟩ := fun ρ H S e s k => by
  obtain ⟨h1, h2⟩ := locked_at hl h0 e s k
  have hn := h2.length
  refine ⟨fun i hi => ⟨h1, by simp at hi; omega⟩, ⟨h1, by simp; omega⟩, fun i x H' hi y => ?_⟩
  obtain ⟨T, kk, v, y1, rfl, y2, rfl⟩ := y
  obtain ⟨d, g1, g2⟩ := h2.getV y1
  exact ⟨pairD (kk, d), by simp [g1], Ext.fresh y2, s.laid y2, VR.newTup s y2 (.cons (vr_key kk) (.cons g2 .nil))⟩
end
section
variable {X : Cx} {W : WX} {tg e : Expr} {m : ME} {apos cpos : Pos}
theorem Im_dict {K : PySem.W.Frag} {f : D → Sto → Option Items} {σ : St} {H : Hp} {Rr : It → Hp → Prop} {Q1 : V → Hp → Prop} (h : Im K W (fun τ S => (m τ S).bind fun d S1 => ofO (f d S1) S1) σ H Rr)
    (k : ∀ ρ1 H1 S1 v d it, SR K ρ1 S1 H1 → VR K ρ1 H1 v d → f d S1 = some it → (∀ J, keepOk it.keep S1 → IterOK K ρ1 H1 J it → Rr J H1) → Q1 v H1) : Em K W m σ H Q1 := by
  obtain ⟨ρ, τ, S, s, r, p⟩ := h
  refine ⟨ρ, τ, S, s, r, ?_⟩
  simp only [] at p
  cases q : m τ S with
  | bad => rw [q] at p; exact p.elim
  | ex c fs S' => rw [q] at p; exact p
  | ok d S1 =>
    rw [q] at p
    simp only [R.bind_ok] at p
    cases q2 : f d S1 with
    | none => rw [q2] at p; exact p.elim
    | some it =>
      rw [q2] at p
      exact fun ρ1 H1 v e1 s1 v1 => k ρ1 H1 S1 v d it s1 v1 q2 fun J kk ok => p ρ1 H1 J e1 s1 kk ok
theorem i_vals (he : PE X e (Em X.K W m)) (hbase : attributeBase e "values" X.env (eval e X.env) = eval e X.env := by rfl) (hline : (apos.endLine == cpos.line) = true := by rfl) : PI X tg (.Call (.Attribute e "values" apos) [] [] cpos) (Im X.K W (iVal m)) :=
  PI_imp (pi_values he hbase hline) fun σ H Q h => Im_dict h fun ρ1 H1 S1 v d it s1 v1 q k => by
    unfold valsOf at q
    split at q
    · split at q
      · rename_i kvs e
        cases q
        cases v1 with
        | @loc a l hl =>
          obtain ⟨od, ws, g1, g2⟩ := s1.at hl e
          exact ⟨a, od, ws, rfl, g1, k _ (keep1.mp (keep1.mpr e) |> fun z => keepB_iff.mp (keep1.mpr z)) (iter_vals hl g1)⟩
      · cases q
    · cases q
theorem i_items {elts : List Expr} {kk : Nat} {tpos : Pos} (he : PE X e (Em X.K W m)) (hbase : attributeBase e "items" X.env (eval e X.env) = eval e X.env := by rfl) (hline : (apos.endLine == cpos.line) = true := by rfl) : PI X (.Tuple elts kk tpos) (.Call (.Attribute e "items" apos) [] [] cpos) (Im X.K W (iItm m)) :=
  PI_imp (pi_items he hbase hline) fun σ H Q h => Im_dict h fun ρ1 H1 S1 v d it s1 v1 q k => by
    unfold itemsOfD at q
    split at q
    · split at q
      · rename_i kvs e
        cases q
        cases v1 with
        | @loc a l hl =>
          obtain ⟨od, ws, g1, g2⟩ := s1.at hl e
          exact ⟨a, od, ws, rfl, g1, k _ (keepB_iff.mp (keep1.mpr e)) (iter_items hl g1)⟩
      · cases q
    · cases q
end

/-! ### while -/
def whileN (t : MT) (b : MS) : Nat → MS
  | 0 => fun _ _ => .bad
  | n + 1 => fun τ S => liftS (t τ S) τ fun k S1 => if k = true then (match b τ S1 with
    | .nx τ2 S2 => whileN t b n τ2 S2
    | .ct τ2 S2 => whileN t b n τ2 S2
    | .bk τ2 S2 => .nx τ2 S2
    | o => o) else .nx τ S1
open Classical in
/-- the turns come to an end -/
noncomputable def sWhile (t : MT) (b : MS) : MS := fun τ S => if h : ∃ n, whileN t b n τ S ≠ .bad then whileN t b (Classical.choose h) τ S else .bad
theorem whileN_mono {t : MT} {b : MS} : ∀ {n m : Nat} {τ : Tau} {S : Sto}, n ≤ m → whileN t b n τ S ≠ .bad → whileN t b m τ S = whileN t b n τ S
  | 0, _, _, _, _, h => absurd rfl h
  | n + 1, 0, _, _, hl, _ => absurd hl (by omega)
  | n + 1, m + 1, τ, S, hl, h => by
    unfold whileN at h ⊢
    cases q : t τ S with
    | bad => rfl
    | ex c fs S' => rfl
    | ok k S1 =>
      rw [q] at h
      simp only [liftS_ok] at h ⊢
      cases k with
      | false => rfl
      | true =>
        simp only [if_true] at h ⊢
        cases q2 : b τ S1 with
        | nx τ2 S2 => rw [q2] at h; exact whileN_mono (by omega) h
        | ct τ2 S2 => rw [q2] at h; exact whileN_mono (by omega) h
        | _ => rfl
theorem sWhile_eq {t : MT} {b : MS} {n : Nat} {τ : Tau} {S : Sto} (h : whileN t b n τ S ≠ .bad) : sWhile t b τ S = whileN t b n τ S := by
  unfold sWhile
  have hh : ∃ n, whileN t b n τ S ≠ .bad := ⟨n, h⟩
  rw [dif_pos hh]
  have h2 := Classical.choose_spec hh
  rcases Nat.le_total n (Classical.choose hh) with z | z
  · exact whileN_mono z h
  · exact (whileN_mono z h2).symm
section
variable {X : Cx} {W : WX} {c : Expr} {body : List Stmt} {t : MT} {mb : MS} {pos : Pos}
theorem s_while (hp : PassesOwn (model X.prog X.w) X.A X.env X.xe) (hc : PT X c (Tm X.K W t)) (hb : PSs X body (Sm X.K W mb)) : PS X (.While c body [] pos) (Sm X.K W (sWhile t mb)) := PS_imp (ps_while hp hc hb) fun D σ H ⟨ρ, τ, S, s, r, p⟩ => by
  have hn : ∃ n, whileN t mb n τ S ≠ .bad := by
    refine Classical.byContradiction fun z => ?_
    unfold sWhile at p
    rw [dif_neg z] at p
    exact p.elim
  obtain ⟨n, hn⟩ := hn
  rw [sWhile_eq hn] at p
  refine ⟨fun m σ H => ∃ ρ τ S, SR X.K ρ S H ∧ ER X.K ρ H τ σ ∧ PostS X.K W ρ H σ (whileN t mb m τ S) D, ⟨n, ρ, τ, S, s, r, p⟩, ?_⟩
  rintro m σ1 H1 ⟨ρ1, τ1, S1, s1, r1, p1⟩
  cases m with
  | zero => exact p1.elim
  | succ m =>
    unfold whileN at p1
    refine Tm_S s1 r1 p1 fun ρ2 H2 S2 k s2 r2 e2 p2 => ?_
    cases k with
    | false =>
      rw [if_neg (by decide)] at p2 ⊢
      exact PostS.here p2 s2 r2
    | true =>
      rw [if_pos rfl] at p2 ⊢
      refine ⟨fun σ' H' => ∃ ρ τ S, SR X.K ρ S H' ∧ ER X.K ρ H' τ σ' ∧ PostS X.K W ρ H' σ' (whileN t mb m τ S) D, fun σ' H' h => ⟨m, Nat.lt_succ_self m, h⟩, ρ2, τ1, S2, s2, r2, ?_⟩
      cases q : mb τ1 S2 with
      | nx τ3 S3 => rw [q] at p2; exact fun ρ4 σ4 H4 e4 s4 r4 => ⟨ρ4, τ3, S3, s4, r4, PostS.ext e4 p2⟩
      | ct τ3 S3 => rw [q] at p2; exact fun ρ4 σ4 H4 e4 s4 r4 => ⟨ρ4, τ3, S3, s4, r4, PostS.ext e4 p2⟩
      | bk τ3 S3 => rw [q] at p2; exact fun ρ4 σ4 H4 e4 s4 r4 => p2 ρ4 σ4 H4 e4 s4 r4
      | rt d S3 => rw [q] at p2; exact p2
      | ex τ3 n3 fs S3 => rw [q] at p2; exact p2
      | bad => rw [q] at p2; exact p2
end
end Z

/-! Z35: zip of a tuple and a list. -/
namespace Z
open PySem PySem.Spec L2
section
variable {P : Program} {w : World} {A : Around} {E : Value → Shared → Prop} {s : Shared}
/-- the heap behind zip's making: two iterators, the pair of them, the pair that is handed out, the zip -/
def zh2 (h : Heap) (o1 o2 : Obj) : Heap := (h.push o1).push o2
def zh4 (h : Heap) (o1 o2 : Obj) : Heap := ((zh2 h o1 o2).push { cls := .type "tuple", data := .seq #[.ref h.objs.size, .ref (h.push o1).objs.size] }).push { cls := .type "tuple", data := .seq #[.none, .none] }
def zh5 (h : Heap) (o1 o2 : Obj) : Heap := (zh4 h o1 o2).push { cls := .type "zip", data := .fields #[.none, .bool false, .bool false, .ref (zh2 h o1 o2).objs.size, .ref ((zh2 h o1 o2).push { cls := .type "tuple", data := .seq #[.ref h.objs.size, .ref (h.push o1).objs.size] }).objs.size] }
theorem zip_made {v1 v2 : Value} {o1 o2 : Obj} {H1 H2 : Heap → Prop} (B1 : Begins v1 o1 H1) (B2 : Begins v2 o2 H2) :
    Meets (Builtin.«zip.__new__» ⟨[.type "zip", v1, v2], []⟩) (fun _ R z => H1 z.heap ∧ H2 z.heap ∧ R (.ok (.ret (.ref (zh4 z.heap o1 o2).objs.size))) { z with heap := zh5 z.heap o1 o2 }) :=
  .of_wp fun P w A R z hz => by
    obtain ⟨h0, g0, d0, t0, q0⟩ := z
    obtain ⟨hA, hB, hR⟩ := hz
    have hsub := sub_zip
    have hB2 : H2 (h0.push o1) := B2.keeps _ _ hB fun b o e => Heap.get?_push_of_some _ e
    have first_ : ∀ {A' : Around} {E : Value → Shared → Prop} {Q : Value → Shared → Prop}, Q (.ref h0.objs.size) ⟨h0.push o1, g0, d0, t0, q0⟩ → wpAny (model P w) A' (pyIter v1) Q E ⟨h0, g0, d0, t0, q0⟩ :=
      fun q => B1.iter P w _ _ ⟨h0, g0, d0, t0, q0⟩ _ hA q
    have second_ : ∀ {A' : Around} {E : Value → Shared → Prop} {Q : Value → Shared → Prop}, Q (.ref (h0.push o1).objs.size) ⟨(h0.push o1).push o2, g0, d0, t0, q0⟩ → wpAny (model P w) A' (pyIter v2) Q E ⟨h0.push o1, g0, d0, t0, q0⟩ :=
      fun q => B2.iter P w _ _ ⟨h0.push o1, g0, d0, t0, q0⟩ _ hB2 q
    wp_walk using first_, second_
    exact ⟨_, rfl, hR⟩
theorem zip_called {v1 v2 : Value} {o1 o2 : Obj} {H1 H2 : Heap → Prop} {Q : Value → Shared → Prop} (B1 : Begins v1 o1 H1) (B2 : Begins v2 o2 H2) (h1 : H1 s.heap) (h2 : H2 s.heap)
    (k : ∀ h', IsZip h' (s.heap.objs.size + 4) (s.heap.objs.size + 2) (s.heap.objs.size + 3) .none → IsTupOf2 h' (s.heap.objs.size + 2) (.ref s.heap.objs.size) (.ref (s.heap.objs.size + 1)) → IsTupOf2 h' (s.heap.objs.size + 3) .none .none →
      h'.get? s.heap.objs.size = some o1 → h'.get? (s.heap.objs.size + 1) = some o2 → (∀ c o, s.heap.get? c = some o → h'.get? c = some o) → Q (.ref (s.heap.objs.size + 4)) { s with heap := h' }) :
    wpAny (model P w) A (call (.type "zip") [v1, v2]) Q E s := by
  refine callType_new F.called_zip (by decide) (F.typeCall_zip_2 _ _) (F.newCall_zip_2 _ _) (fun obj => F.args_object_init_3 obj _ _) F.entry_zip_new (zip_made B1 B2) ⟨h1, h2, ?_⟩
  have n1 : (s.heap.push o1).objs.size = s.heap.objs.size + 1 := Heap.size_push ..
  have n2 : (zh2 s.heap o1 o2).objs.size = s.heap.objs.size + 2 := by unfold zh2; rw [Heap.size_push, n1]
  have n3 : ((zh2 s.heap o1 o2).push { cls := .type "tuple", data := .seq #[.ref s.heap.objs.size, .ref (s.heap.push o1).objs.size] }).objs.size = s.heap.objs.size + 3 := by rw [Heap.size_push, n2]
  have n4 : (zh4 s.heap o1 o2).objs.size = s.heap.objs.size + 4 := by unfold zh4; rw [Heap.size_push, n3]
  have up : ∀ c o, (zh2 s.heap o1 o2).get? c = some o → (zh5 s.heap o1 o2).get? c = some o := fun c o e => Heap.get?_push_of_some _ (Heap.get?_push_of_some _ (Heap.get?_push_of_some _ e))
  have a1 : (zh5 s.heap o1 o2).get? s.heap.objs.size = some o1 := up _ _ (Heap.get?_push_of_some _ (Heap.get?_push_size _ B1.free))
  have a2 : (zh5 s.heap o1 o2).get? (s.heap.push o1).objs.size = some o2 := up _ _ (Heap.get?_push_size _ B2.free)
  have a3 : (zh5 s.heap o1 o2).get? (zh2 s.heap o1 o2).objs.size = some _ := Heap.get?_push_of_some _ (Heap.get?_push_of_some _ (Heap.get?_push_size _ rfl))
  have a4 : (zh5 s.heap o1 o2).get? ((zh2 s.heap o1 o2).push { cls := .type "tuple", data := .seq #[.ref s.heap.objs.size, .ref (s.heap.push o1).objs.size] }).objs.size = some _ := Heap.get?_push_of_some _ (Heap.get?_push_size _ rfl)
  have a5 : (zh5 s.heap o1 o2).get? (zh4 s.heap o1 o2).objs.size = some _ := Heap.get?_push_size _ rfl
  show _ ∧ _
  rw [n4, n2, n3] at a5
  rw [n2, n1] at a3
  rw [n3] at a4
  rw [n1] at a2
  rw [n4]
  exact ⟨⟨_, a5, rfl⟩, k _ a5 a3 a4 a1 a2 fun c o x => up _ _ (Heap.get?_push_of_some _ (Heap.get?_push_of_some _ x))⟩
end
/-- the tuple at a and the list at b as they stand at each turn, the items in new pairs -/
def ItzM (K : PySem.W.Frag) (a b : Addr) : It :=
  ⟨fun i H => ∃ (xs ys : List V) (x y : V), SqT K H a xs ∧ SqL K H b ys ∧ xs[i]? = some x ∧ ys[i]? = some y,
    fun i H v H' => ∃ T x y, v = .ref T ∧ H T = none ∧ H' = upd H T (.tup [x, y]) ∧ (∀ xs, SqT K H a xs → xs[i]? = some x) ∧ ∀ ys, SqL K H b ys → ys[i]? = some y,
    fun i H => ∃ xs ys : List V, SqT K H a xs ∧ SqL K H b ys ∧ i ≤ xs.length ∧ i ≤ ys.length ∧ (i = xs.length ∨ i = ys.length)⟩
structure ZSep (z TI TO i1 i2 a b : Addr) : Prop extends ZipSep2 z TI TO i1 i2 [i1, a] [i2, b] where
  sepA : a ≠ i1
  sepB : b ≠ i2
theorem zsep {z TI TO i1 i2 a b : Addr} (c1 : a ∉ [z, TI, TO, i1, i2]) (c2 : b ∉ [z, TI, TO, i1, i2]) (nd : [z, TI, TO, i1, i2].Nodup) : ZSep z TI TO i1 i2 a b := by
  simp only [List.nodup_cons, List.mem_cons, List.not_mem_nil, or_false, not_or] at nd c1 c2
  obtain ⟨⟨n1, n2, n3, n4⟩, ⟨n5, n6, n7⟩, ⟨n8, n9⟩, n10, _⟩ := nd
  obtain ⟨a1, a2, a3, a4, a5⟩ := c1
  obtain ⟨b1, b2, b3, b4, b5⟩ := c2
  refine { TIz := Ne.symm n1, TOz := Ne.symm n2, TITO := n5, TIi1 := n6, mem1 := by simp, zf1 := ?_, Tf1 := ?_, TIi2 := n7, mem2 := by simp, zf2 := ?_, Tf2 := ?_, sep1_2 := ?_, sep2_1 := ?_, sepA := a4, sepB := b5 }
  all_goals simp only [List.mem_cons, List.not_mem_nil, or_false, not_or]
  · exact ⟨n3, Ne.symm a1⟩
  · exact ⟨n8, Ne.symm a3⟩
  · exact ⟨n4, Ne.symm b1⟩
  · exact ⟨n9, Ne.symm b3⟩
  · exact ⟨n10, Ne.symm b4⟩
  · exact ⟨Ne.symm n10, Ne.symm a5⟩
theorem turn_zipM {P : Program} {w : World} {K : PySem.W.Frag} {elts : List Expr} {kk : Nat} {tpos : Pos} {a b z TI TO i1 i2 : Addr} (c1 : a ∉ [z, TI, TO, i1, i2]) (c2 : b ∉ [z, TI, TO, i1, i2]) (nd : [z, TI, TO, i1, i2].Nodup) :
    Turn P w K (.Tuple elts kk tpos) (ItzM K a b) [z, TI, TO, i1, i2] z (fun i h => IsZip h z TI TO .none ∧ IsTupOf2 h TI (.ref i1) (.ref i2) ∧ (∃ x y, IsTupOf2 h TO x y) ∧ h.IsTupleIter i1 a i ∧ h.IsListIter i2 b i) where
  mem := by simp
  obj := fun i h st c hc => by
    obtain ⟨hz, hTI, ⟨x, y, hTO⟩, ⟨o1, e1, _, d1⟩, ⟨o2, e2, _, d2⟩⟩ := st
    rcases (show c = z ∨ c = TI ∨ c = TO ∨ c = i1 ∨ c = i2 by simpa using hc) with q | q | q | q | q
    · rw [q]; exact ⟨_, hz, fun v q => nomatch q⟩
    · rw [q]; exact ⟨_, hTI, fun v q => nomatch q⟩
    · rw [q]; exact ⟨_, hTO, fun v q => nomatch q⟩
    · rw [q]; exact ⟨o1, e1, fun v q => by rw [d1] at q; cases q⟩
    · rw [q]; exact ⟨o2, e2, fun v q => by rw [d2] at q; cases q⟩
  keep := fun i h h' st k => ⟨k z (by simp) _ st.1, k TI (by simp) _ st.2.1, let ⟨x, y, q⟩ := st.2.2.1; ⟨x, y, k TO (by simp) _ q⟩, st.2.2.2.1.at fun o q => k i1 (by simp) o q, st.2.2.2.2.at fun o q => k i2 (by simp) o q⟩
  item := by
    intro X hP hw hK hc i pins s σ H E I hf st hg
    subst hP hw hK
    obtain ⟨hz, hTI, ⟨x0, y0, hTO⟩, h1, h2⟩ := st
    obtain ⟨xs, ys, x, y, hqx, hqy, hx, hy⟩ := hg
    obtain ⟨its, rv, p, _⟩ := I.tuple hqx
    obtain ⟨its2, rv2, p2, _⟩ := I.list hqy
    obtain ⟨u, hu, ru⟩ := rv.get hx
    obtain ⟨u2, hu2, ru2⟩ := rv2.get hy
    have hzl := Heap.lt_size hz
    have S := zsep c1 c2 nd
    refine wpAny_pyNext_zipD2_item S.toZipSep2 (Draws.tuple (A := X.A.in1) (by simp [I.ok.hd hc]) i1 a S.sepA its.toArray) (Draws.list (A := X.A.in1) (by simp [I.ok.hd hc]) i2 b S.sepB its2.toArray) hz hTI hTO ⟨h1, p⟩ ⟨h2, p2.isList⟩ (by
      have := (List.getElem?_eq_some_iff.mp hu).1; simpa using this) (by
      have := (List.getElem?_eq_some_iff.mp hu2).1; simpa using this) fun x1 x2 h' tk e1 e2 hz' hTO' st1 st2 hT hsz hk => ?_
    have e1' : x1 = u := by
      have e1 : its.toArray[i]? = some x1 := e1
      have : its.toArray[i]? = some u := by simpa using hu
      rw [e1] at this; exact Option.some.inj this
    have e2' : x2 = u2 := by
      have e2 : its2.toArray[i]? = some x2 := e2
      have : its2.toArray[i]? = some u2 := by simpa using hu2
      rw [e2] at this; exact Option.some.inj this
    subst e1' e2'
    refine ⟨_, rfl, wpAny_letOwnedTupleGo_zip (s := { s with heap := h', toks := tk }) hz' fun h'' z'' sb => ?_⟩
    have hT2 : h''.get? s.heap.objs.size = some { cls := .type "tuple", data := .seq #[x1, x2] } := (sb.2 _ (Nat.ne_of_gt hzl)).trans hT
    have new : ObjOk X.prog X.w (upd H s.heap.objs.size (.tup [x, y])) h'' s.heap.objs.size (.tup [x, y]) :=
      ⟨by show 2 ≤ sizeLine; decide, [x1, x2], .cons ru (.cons ru2 .nil), ⟨_, hT2, rfl, _, rfl⟩⟩
    have I1 : Inv X pins σ (upd H s.heap.objs.size (.tup [x, y])) { s with heap := h'', toks := tk } :=
      I.turnedNew (t' := tk) (ch := [z, TI, TO, i1, i2]) (fun c o hb q => (sb.2 c fun q' => hb (by simp [q'])).trans (hk c o (fun q' => hb (by simp [q'])) (fun q' => hb (by simp [q'])) (fun q' => hb (by simp [q'])) (fun q' => hb (by simp [q'])) q)) hf (Nat.le_refl _) new
    refine ⟨.ref s.heap.objs.size, _, I1, rfl, ⟨_, x, y, rfl, I.hok.fresh (Nat.le_refl _), rfl, fun l hl => by rw [I.tuple_inj hl hqx]; exact hx, fun l hl => by rw [I.list_inj hl hqy]; exact hy⟩, ⟨z'', ?_, ⟨x1, x2, ?_⟩, ?_, ?_⟩, fun c hcm => ?_⟩
    · exact (sb.2 _ S.TIz).trans (hk _ _ S.TIz S.TITO S.TIi1 S.TIi2 hTI)
    · exact (sb.2 _ S.TOz).trans hTO'
    · exact st1.1.at fun o q => (sb.2 _ S.zi1.symm).trans q
    · exact st2.1.at fun o q => (sb.2 _ S.zi2.symm).trans q
    · have hlt : c < s.heap.objs.size := by
        rcases (show c = z ∨ c = TI ∨ c = TO ∨ c = i1 ∨ c = i2 by simpa using hcm) with q | q | q | q | q
        · rw [q]; exact hzl
        · rw [q]; exact Heap.lt_size hTI
        · rw [q]; exact Heap.lt_size hTO
        · rw [q]; obtain ⟨_, e1, _⟩ := h1; exact Heap.lt_size e1
        · rw [q]; obtain ⟨_, e2, _⟩ := h2; exact Heap.lt_size e2
      rw [upd_ne (Nat.ne_of_lt hlt)]
      exact (hf c hcm).1
  done := by
    intro X hP hw hK hc i pins s σ H E I hf st hg
    subst hP hw hK
    obtain ⟨hz, hTI, ⟨x0, y0, hTO⟩, h1, h2⟩ := st
    obtain ⟨xs, ys, hqx, hqy, l1, l2, hend⟩ := hg
    obtain ⟨its, rv, p, _⟩ := I.tuple hqx
    obtain ⟨its2, rv2, p2, _⟩ := I.list hqy
    have S := zsep c1 c2 nd
    have e1 : its.toArray.size = xs.length := by rw [List.size_toArray, rv.length]
    have e2 : its2.toArray.size = ys.length := by rw [List.size_toArray, rv2.length]
    exact wpAny_pyNext_zipD2_end S.toZipSep2 (Draws.tuple (A := X.A.in1) (by simp [I.ok.hd hc]) i1 a S.sepA its.toArray) (Draws.list (A := X.A.in1) (by simp [I.ok.hd hc]) i2 b S.sepB its2.toArray) hz hTI hTO ⟨h1, p⟩ ⟨h2, p2.isList⟩ (by omega) (by omega) (by omega) fun h' tk hk => ⟨rfl, I.turnedL (t' := tk) (ch := [z, TI, TO, i1, i2]) (fun c o hb q =>
      hk c o (fun q' => hb (by simp [q'])) (fun q' => hb (by simp [q'])) (fun q' => hb (by simp [q'])) (fun q' => hb (by simp [q'])) q) hf⟩
  self := fun A i s Q E st h => wpAny_pyIter_zip st.1 h
theorem far5 (n a : Nat) (h : a < n) : a ∉ [n + 4, n + 2, n + 3, n, n + 1] := by
  simp; omega
theorem nd5 (n : Nat) : [n + 4, n + 2, n + 3, n, n + 1].Nodup := by simp
def iZipM (K : PySem.W.Frag) (ta : TA) : TI := fun σ H R => ta σ H fun vs H1 => ∃ a b xs ys, vs = [.ref a, .ref b] ∧ SqT K H1 a xs ∧ SqL K H1 b ys ∧ R (ItzM K a b) H1
theorem pi_zipM {X : Cx} {e e2 : Expr} {ta : TA} {p pos tpos : Pos} {elts : List Expr} {kk : Nat} (hg : Gl X "zip") (hm : X.mg "zip" = none) (ha : PA X [e, e2] ta)
    (hs : starEach [e, e2] X.env = (false, eval e X.env) :: starEach [e2] X.env := by rfl) (hpl : (backTo pos (starEach [e2] X.env)).any (·.1) = false := by rfl) :
    PI X (.Tuple elts kk tpos) (.Call (.Name "zip" p) [e, e2] [] pos) (iZipM X.K ta) := by
  constructor
  intro pins s σ H R I h
  refine PyProof.Rows.Call_ (ld_blt I hg hm PyProof.Rows.boot_zip (PyProof.Rows.callWith_type1 (thn (ha.run pos pins s σ H _ I h) fun us s1 ⟨vs, H1, I1, r1, q1⟩ => ?_) hs hpl))
  obtain ⟨a, b, xs, ys, ex, hqx, hqy, q⟩ := q1
  subst ex
  cases r1 with
  | cons r rr => cases rr with
    | cons r' rr =>
      cases rr; cases r; cases r'
      obtain ⟨its, rv, p1, _⟩ := I1.tuple hqx
      obtain ⟨its2, rv2, p2, _⟩ := I1.list hqy
      have la : a < s1.heap.objs.size := let ⟨o, ho, _⟩ := p1; Heap.lt_size ho
      have lb : b < s1.heap.objs.size := p2.lt
      refine zip_called (begins_tuple a its.toArray) (begins_list b its2.toArray) p1 p2.isList fun h' hz hTI hTO g1 g2 hk => wpAny_pyIter_zip hz ?_
      have I2 : Inv X pins σ H1 { s1 with heap := h' } := I1.kept (t' := s1.toks) hk
      refine ⟨s1.heap.objs.size + 4, [s1.heap.objs.size + 4, s1.heap.objs.size + 2, s1.heap.objs.size + 3, s1.heap.objs.size, s1.heap.objs.size + 1], _, _, H1, rfl, I2, turn_zipM (a := a) (b := b) ?_ ?_ ?_, ⟨hz, hTI, ⟨_, _, hTO⟩, ⟨_, g1, rfl, rfl⟩, ⟨_, g2, rfl, rfl⟩⟩, fun c hcm => ?_, q⟩
      · exact far5 _ _ la
      · exact far5 _ _ lb
      · exact nd5 _
      · have hle : s1.heap.objs.size ≤ c := by
          rcases (show c = s1.heap.objs.size + 4 ∨ c = s1.heap.objs.size + 2 ∨ c = s1.heap.objs.size + 3 ∨ c = s1.heap.objs.size ∨ c = s1.heap.objs.size + 1 by simpa using hcm) with q | q | q | q | q
          · rw [q]; exact Nat.le_add_right _ _
          · rw [q]; exact Nat.le_add_right _ _
          · rw [q]; exact Nat.le_add_right _ _
          · rw [q]; exact Nat.le_refl _
          · rw [q]; exact Nat.le_add_right _ _
        exact I1.fpOk hle (I1.hok.fresh hle)
/-- zip of any two rows: both tuples, both lists, a tuple and a list -/
def tupR : D → Option (List D)
  | .tup ds => some ds
  | .ktup ds => some ds
  | _ => none
def zipA : List D → Sto → Option Items
  | [x, y], S => (match tupR x, tupR y with
    | some ds, some es => some ⟨List.zipWith (fun a b => .tup [a, b]) ds es, []⟩
    | some ds, none => (listR y S).map fun es => ⟨List.zipWith (fun a b => .tup [a, b]) ds es, keepOf y S⟩
    | none, _ => (match listR x S, listR y S with
      | some ds, some es => some ⟨List.zipWith (fun a b => .tup [a, b]) ds es, keepOf x S ++ keepOf y S⟩
      | _, _ => none))
  | _, _ => none
section
variable {K : PySem.W.Frag} {ρ0 : Pl} {H0 : Hp}
theorem tupR_of {ρ : Pl} {H : Hp} {v : V} {d : D} {ds : List D} (r : VR K ρ H v d) (h : tupR d = some ds) : ∃ a xs, v = .ref a ∧ SqT K H a xs ∧ VRs K ρ H xs ds := by
  cases d <;> simp only [tupR, reduceCtorEq, Option.some.injEq] at h
  · subst h; exact tup_of r
  · subst h; exact ktup_of r
theorem iter_zipT' {a b : Addr} {dx dy : D} {ds es : List D} (ra : VR K ρ0 H0 (.ref a) dx) (rb : VR K ρ0 H0 (.ref b) dy) (hx : tupR dx = some ds) (hy : tupR dy = some es) : IterOK K ρ0 H0 (RZ.ItzT K a b) ⟨List.zipWith (fun a b => .tup [a, b]) ds es, []⟩ := fun ρ H S e s k => by
  obtain ⟨_, xs, e1, h1, h2⟩ := tupR_of (ra.mono e) hx
  cases e1
  obtain ⟨_, ys, e1, k1, k2⟩ := tupR_of (rb.mono e) hy
  cases e1
  have hl := h2.length
  have hl2 := k2.length
  refine ⟨fun i hi => ?_, ⟨xs, ys, h1, k1, by show xs.length ≤ (List.zipWith _ _ _).length ∨ _; rw [List.length_zipWith]; omega⟩, fun i x H' hi y => ?_⟩
  · have hi' : i < (List.zipWith (fun a b => D.tup [a, b]) ds es).length := hi
    rw [List.length_zipWith] at hi'
    exact ⟨xs, ys, xs[i]'(by omega), ys[i]'(by omega), h1, k1, by simp, by simp⟩
  · obtain ⟨T, x, y, e1, e2, e3, e4, e5⟩ := y
    exact pair_turn s h2 k2 ⟨T, x, y, e1, e2, e3, e4 xs h1, e5 ys k1⟩
theorem iter_zipM {a b : Addr} {dx dy : D} {ds es : List D} {S0 : Sto} (ra : VR K ρ0 H0 (.ref a) dx) (rb : VR K ρ0 H0 (.ref b) dy) (hx : tupR dx = some ds) (hy : listR dy S0 = some es) : IterOK K ρ0 H0 (ItzM K a b) ⟨List.zipWith (fun a b => .tup [a, b]) ds es, keepOf dy S0⟩ := fun ρ H S e s k => by
  obtain ⟨_, xs, e1, h1, h2⟩ := tupR_of (ra.mono e) hx
  cases e1
  obtain ⟨_, ys, e1, k1, k2⟩ := listR_of s (rb.mono e) (listR_keep hy k)
  cases e1
  have hl := h2.length
  have hl2 := k2.length
  refine ⟨fun i hi => ?_, ⟨xs, ys, h1, k1, ?_, ?_, ?_⟩, fun i x H' hi y => ?_⟩
  · have hi' : i < (List.zipWith (fun a b => D.tup [a, b]) ds es).length := hi
    rw [List.length_zipWith] at hi'
    exact ⟨xs, ys, xs[i]'(by omega), ys[i]'(by omega), h1, k1, by simp, by simp⟩
  all_goals first | (show (List.zipWith _ _ _).length ≤ _; rw [List.length_zipWith]; omega) | (show (List.zipWith _ _ _).length = _ ∨ _; rw [List.length_zipWith]; omega) | skip
  obtain ⟨T, x, y, e1, e2, e3, e4, e5⟩ := y
  exact pair_turn s h2 k2 ⟨T, x, y, e1, e2, e3, e4 xs h1, e5 ys k1⟩
end
section
variable {X : Cx} {W : WX} {tg a b : Expr} {ms : MA} {p pos : Pos}
theorem i_zipA {elts : List Expr} {kk : Nat} {tpos : Pos} (hm : X.mg "zip" = none) (ha : PA X [a, b] (Am X.K W ms)) (hg : Gl X "zip" := by rfl)
    (hs : starEach [a, b] X.env = (false, eval a X.env) :: starEach [b] X.env := by rfl) (hpl : (backTo pos (starEach [b] X.env)).any (·.1) = false := by rfl) : PI X (.Tuple elts kk tpos) (.Call (.Name "zip" p) [a, b] [] pos) (Im X.K W (iArgs zipA ms)) := by
  constructor
  intro pins st σ H Rr I h
  have main : (RZ.iZipA X.K (Am X.K W ms)) σ H Rr ∨ (iZipM X.K (Am X.K W ms)) σ H Rr := by
    obtain ⟨ρ, τ, S, s, r, q⟩ := h
    unfold iArgs at q
    cases q1 : ms τ S with
    | bad => rw [q1] at q; exact q.elim
    | ex c fs S' =>
      rw [q1] at q
      exact .inl ⟨ρ, τ, S, s, r, by rw [q1]; exact q⟩
    | ok ds S1 =>
      rw [q1] at q
      simp only [R.bind_ok] at q
      cases q2 : zipA ds S1 with
      | none => rw [q2] at q; exact q.elim
      | some it =>
        rw [q2] at q
        simp only [ofO_some] at q
        unfold zipA at q2
        split at q2
        · rename_i dx dy
          split at q2
          · rename_i ds es t1 t2
            cases q2
            refine .inl ⟨ρ, τ, S, s, r, ?_⟩
            rw [q1]
            intro ρ1 H1 vs e1 s1 v1
            obtain ⟨v, w, rfl, rv, rw'⟩ := vrs2 v1
            obtain ⟨x, xs, rfl, h1, h2⟩ := tupR_of rv t1
            obtain ⟨y, ys, rfl, k1, k2⟩ := tupR_of rw' t2
            exact ⟨x, y, xs, ys, rfl, .inr ⟨h1, k1, q ρ1 H1 _ e1 s1 (fun _ h => nomatch h) (iter_zipT' rv rw' t1 t2)⟩⟩
          · rename_i ds t1 t2
            simp only [Option.map_eq_some_iff] at q2
            obtain ⟨es, t3, rfl⟩ := q2
            refine .inr ⟨ρ, τ, S, s, r, ?_⟩
            rw [q1]
            intro ρ1 H1 vs e1 s1 v1
            obtain ⟨v, w, rfl, rv, rw'⟩ := vrs2 v1
            obtain ⟨x, xs, rfl, h1, h2⟩ := tupR_of rv t1
            obtain ⟨y, ys, rfl, k1, k2⟩ := listR_of s1 rw' t3
            exact ⟨x, y, xs, ys, rfl, h1, k1, q ρ1 H1 _ e1 s1 keepOf_ok (iter_zipM rv rw' t1 t3)⟩
          · split at q2
            · rename_i ds es t1 t2
              cases q2
              refine .inl ⟨ρ, τ, S, s, r, ?_⟩
              rw [q1]
              intro ρ1 H1 vs e1 s1 v1
              obtain ⟨v, w, rfl, rv, rw'⟩ := vrs2 v1
              obtain ⟨x, xs, rfl, h1, h2⟩ := listR_of s1 rv t1
              obtain ⟨y, ys, rfl, k1, k2⟩ := listR_of s1 rw' t2
              exact ⟨x, y, xs, ys, rfl, .inl ⟨h1, k1, q ρ1 H1 _ e1 s1 (keepOk_app.mpr ⟨keepOf_ok, keepOf_ok⟩) (iter_zipL rv rw' t1 t2)⟩⟩
            · cases q2
        · cases q2
  rcases main with h | h
  · exact (RZ.pi_zipA hg hm ha hs hpl).run pins st σ H Rr I h
  · exact (pi_zipM hg hm ha hs hpl).run pins st σ H Rr I h
end
end Z

/-! Z36: the module's constants: tuples, dicts with text keys; texts that are equal. -/
namespace Z
open PySem PySem.Spec PyProof.Rows L2

mutual
/-- a written value reads as a tree -/
inductive LitV (K : PySem.W.Frag) : Value → D → Prop
  | non : LitV K .none .non
  | int (i : Int) (t : Tok) : LitV K (.int i t) (.int i)
  | str (x : Str) (t : Tok) : LitV K (.str x t) (.str x)
  | tup {p : Addr} {vs : List Value} {ds : List D} {n : Nat} {dd : Option Addr} {sl : Array (Option Value)} : K.lookup p = some ⟨.type "tuple", dd, .seq vs.toArray n, sl⟩ → vs.length ≤ sizeLine → LitVs K vs ds → LitV K (.ref p) (.ktup ds)
inductive LitVs (K : PySem.W.Frag) : List Value → List D → Prop
  | nil : LitVs K [] []
  | cons {u : Value} {us : List Value} {d : D} {ds : List D} : LitV K u d → LitVs K us ds → LitVs K (u :: us) (d :: ds)
end
mutual
theorem LitV.vr {K : PySem.W.Frag} : ∀ {u : Value} {d : D}, LitV K u d → ∃ v, RelV v u ∧ ∀ ρ H, VR K ρ H v d
  | _, _, .non => ⟨.non, rfl, fun _ _ => .non⟩
  | _, _, .int i t => ⟨.int i, ⟨t, rfl⟩, fun _ _ => .int i⟩
  | _, _, .str x t => ⟨.str x, ⟨t, rfl⟩, fun _ _ => .str x⟩
  | _, _, .tup (p := p) (vs := vs) h hl hs => by
    obtain ⟨xs, h1, h2⟩ := LitVs.vr hs
    exact ⟨.ref p, rfl, fun ρ H => .ktup (fun H' => .inr ⟨_, vs.toArray, _, h, rfl, rfl, by simpa using hl, by simpa using h1⟩) (h2 ρ H)⟩
theorem LitVs.vr {K : PySem.W.Frag} : ∀ {us : List Value} {ds : List D}, LitVs K us ds → ∃ vs, Vals vs us ∧ ∀ ρ H, VRs K ρ H vs ds
  | _, _, .nil => ⟨[], .nil, fun _ _ => .nil⟩
  | _, _, .cons h hs => by
    obtain ⟨v, a1, a2⟩ := LitV.vr h
    obtain ⟨vs, b1, b2⟩ := LitVs.vr hs
    exact ⟨v :: vs, .cons a1 b1, fun ρ H => .cons (a2 ρ H) (b2 ρ H)⟩
end
/-- entries of a written dict -/
inductive EntK (P : Params) (K : PySem.W.Frag) : List DictEntry → List (Str × D) → Prop
  | nil : EntK P K [] []
  | cons {x : Str} {t : Tok} {u : Value} {d : D} {es : List DictEntry} {kvs : List (Str × D)} : LitV K u d → EntK P K es kvs → EntK P K (⟨PyData.keyHash P x, .str x t, u⟩ :: es) ((x, d) :: kvs)
structure KDG (P : Params) (K : PySem.W.Frag) (d : Addr) (kvs : List (Str × D)) : Prop where
  at_ : ∃ (es : List DictEntry) (n : Nat), K.lookup d = some ⟨.type "dict", none, .dict es.toArray n, #[]⟩ ∧ EntK P K es kvs
  low : (d == sysModules) = false
theorem EntK.lit {P : Params} {K : PySem.W.Frag} {es : List DictEntry} {kvs : List (Str × D)} (h : EntK P K es kvs) : PySem.W.KeysLit P es := by
  induction h with
  | nil => exact True.intro
  | cons h hs ih => exact ⟨⟨_, _, rfl, rfl⟩, ih⟩
theorem EntK.find {P : Params} {K : PySem.W.Frag} {es : List DictEntry} {kvs : List (Str × D)} {z : Str} (h : EntK P K es kvs) : (valG kvs z = none ∧ findBy Value.isStrOf es.toArray z = none) ∨ ∃ d u, valG kvs z = some d ∧ findBy Value.isStrOf es.toArray z = some u ∧ LitV K u d := by
  unfold findBy
  rw [List.find?_toArray]
  induction h with
  | nil => exact .inl ⟨rfl, rfl⟩
  | @cons x t u d es kvs h hs ih =>
    rw [valG_cons, List.find?_cons]
    by_cases e : x = z
    · subst e
      refine .inr ⟨d, u, if_pos rfl, ?_, h⟩
      have : Value.isStrOf x (Value.str x t) = true := by simp [Value.isStrOf]
      simp [this]
    · have e2 : Value.isStrOf z (Value.str x t) = false := by
        simp [Value.isStrOf]
        first | exact e | exact fun q => e q.symm
      simp only [e2, if_neg e]
      exact ih
def mKGet (kvs : List (Str × D)) (k : ME) : ME := fun τ S => (k τ S).bind fun y S1 => match y with
  | .str x => .ok ((valG kvs x).getD .non) S1
  | _ => .bad
def dKIn (neg : Bool) (kvs : List (Str × D)) (k : ME) : ME := fun τ S => (k τ S).bind fun y S1 => match y with
  | .str x => .ok (.bl (if neg then !(valG kvs x).isSome else (valG kvs x).isSome)) S1
  | _ => .bad
section
variable {X : Cx} {W : WX} {x : Str} {d : Addr} {kvs : List (Str × D)} {e : Expr} {m : ME} {p apos cpos pos : Pos}
theorem KDG.map {pins : List (Addr × Obj)} {σ : L2.St} {H : Hp} {s : Shared} (D : KDG X.w.params X.K d kvs) (I : Inv X pins σ H s) : ∃ f, s.heap.MapOf (strKind X.prog X.w) d f ∧ ∀ z, (valG kvs z = none ∧ f z = none) ∨ ∃ q u, valG kvs z = some q ∧ f z = some u ∧ LitV X.K u q := by
  obtain ⟨es, n, h1, h2⟩ := D.at_
  exact ⟨_, PySem.W.mapOf_K (prog := X.prog) I.kIn h1 (by simpa using h2.lit), fun z => h2.find⟩
theorem z_kget (hm : X.mg x = some (.ref d)) (D : KDG X.w.params X.K d kvs) (he : PE X e (Em X.K W m)) (hg : Gl X x := by rfl) (hdb : (x == ("__debug__" : Str)) = false := by decide)
    (b1 : attributeBase (.Name x p) "get" X.env (eval (.Name x p) X.env) = eval (.Name x p) X.env := by rfl) (b2 : ((backTo cpos (starEach [e] X.env)).all (fun x => !x.1) && (backToKw cpos (keywordEach [] X.env)).all (fun x => x.1.isSome)
    && decide (([e] : List Expr).length + ([] : List Keyword).length + (if ([] : List Keyword).isEmpty then 0 else 1) < 30)) = true := by rfl) (b3 : (apos.endLine == cpos.line) = true := by rfl) (b4 : backTo cpos (starEach [e] X.env) = [(false, eval e X.env)] := by rfl) :
    PE X (.Call (.Attribute (.Name x p) "get" apos) [e] [] cpos) (Em X.K W (mKGet kvs m)) := by
  constructor
  intro pins s σ H Q I ⟨ρ, τ, S, sr, r, po⟩
  refine wpAny_Call_method b1 b2 b3 PySem.F.plainAttrs_dict PySem.F.slot_dict_get PySem.F.type_dict_get (thn ((pe_glob (X := X) (pos := p) (v := .ref d) hg hm rfl hdb).run pins s σ H (fun v H1 => v = .ref d ∧ H1 = H) I ⟨rfl, rfl⟩) fun u s1 ⟨v, H1, I1, rx, ev, eh⟩ => ?_)
  subst ev eh
  obtain rfl : u = Value.ref d := rx
  obtain ⟨f, hm1, hf⟩ := D.map I1
  refine ⟨hm1.typeIs, fun b q => ?_, ?_⟩
  · cases q
    obtain ⟨o, _, _, g1, g2, _⟩ := hm1
    exact ⟨o, g1, g2.2.1⟩
  rw [b4]
  refine Calls.callWith_builtin rfl (Calls.evalArgs_plain (Calls.spliced_cons (thn (he.run pins s1 σ H1 (fun y H2 => ∃ z, y = .str z ∧ ∀ (o : V), (∃ d, o = d ∧ (∀ ρ H, VR X.K ρ H d ((valG kvs z).getD .non))) → Q o H2) I1 (Em_bind sr r po fun ρ1 H1 S1 v d s1 r1 x1 v1 p1 => ?_)) fun iv s2 ⟨y, H2, I2, ry, z, ey, q2⟩ => Calls.spliced_nil ?_)))
  · split at p1
    · cases v1
      exact ⟨_, rfl, fun o ⟨d, e1, e2⟩ => by subst e1; exact p1.here s1 (e2 _ _)⟩
    · exact p1.elim
  · subst ey
    obtain ⟨t, rfl⟩ := (show ∃ t, iv = Value.str z t from ry)
    obtain ⟨f2, hm2, hf2⟩ := D.map I2
    have fin : ∀ (u : Value) (o : V), RelV o u → (∀ ρ H, VR X.K ρ H o ((valG kvs z).getD .non)) → f2 z = some u ∨ (f2 z = none ∧ u = .none) → wpAny (model X.prog X.w) X.A (call (.builtin "dict.get") [.ref d, .str z t]) (EP X pins σ Q) X.xe s2 := by
      intro u o ro vr hu
      refine call_meetsIn PySem.F.slot_dict_get hm2.typeIs PySem.F.entry_dict_get (PySem.F.args_dict_get_2 _ _) (meets_dict_get (strKind X.prog X.w) d (strKind_is X.prog X.w z t) D.low) ⟨f2, hm2, ?_⟩
      have e : (f2 z).getD Value.none = u := by
        rcases hu with h | ⟨h, rfl⟩ <;> rw [h] <;> rfl
      rw [e]
      exact ⟨o, H2, I2.tok _, ro, q2 o ⟨o, rfl, vr⟩⟩
    rcases hf2 z with ⟨e1, e2⟩ | ⟨q, u, e1, e2, lv⟩
    · exact fin .none .non rfl (fun _ _ => by rw [e1]; exact .non) (.inr ⟨e2, rfl⟩)
    · obtain ⟨o, ro, vr⟩ := lv.vr
      exact fin u o ro (fun ρ H => by rw [e1]; exact vr ρ H) (.inl e2)
/-- a tuple of the module -/
theorem z_kt (hm : X.mg x = some (.ref d)) {ds : List D} (L : LitV X.K (.ref d) (.ktup ds)) (hg : Gl X x := by rfl) (hdb : (x == ("__debug__" : Str)) = false := by decide) : PE X (.Name x pos) (Em X.K W (mC (.ktup ds))) := by
  obtain ⟨v, rv, hv⟩ := L.vr
  have e : v = .ref d := RelV.inj rv rfl
  subst e
  exact z_gtup hm hv hg hdb
end
/-! ### texts -/
theorem cps_inj {a b : List Nat} (h : (⟨a.toArray⟩ : Str) = ⟨b.toArray⟩) : a = b := by
  injection h with h
  simpa using h
theorem ofString_inj {a b : String} : (Str.ofString a = Str.ofString b) ↔ a = b := by
  constructor
  · intro h
    rw [Str.ofString_eq_toList, Str.ofString_eq_toList] at h
    have h1 := cps_inj h
    have : a.toList = b.toList := by
      have inj : ∀ c d : Char, c.toNat = d.toNat → c = d := fun c d e => Char.toNat_inj.mp e
      exact (List.map_inj_right fun c d e => inj c d e).mp h1
    exact String.toList_inj.mp this
  · rintro rfl; rfl
theorem ofString_beq {a b : String} : (Str.ofString a == Str.ofString b) = decide (a = b) := by
  rw [Bool.eq_iff_iff, beq_iff_eq, decide_eq_true_iff, ofString_inj]
end Z

/-! Z37: list(range(a, b)); methods of lists. -/
namespace Z
open PySem L2 PySem.Spec
/-! ### list(range(a, b)) -/
def mLstRg (a b : ME) : ME := fun τ S => (a τ S).bind fun x S1 => (b τ S1).bind fun y S2 => match x, y with
  | .int i, .int j => guardR (-(2 ^ 62) ≤ i ∧ i < 2 ^ 62 ∧ -(2 ^ 62) ≤ j ∧ j < 2 ^ 62 ∧ (j - i).toNat ≤ 2 ^ 24) (.ok (.lst ((rgI i j).map D.int)) S2)
  | _, _ => .bad
section
variable {X : Cx} {W : WX} {a b : Expr} {ma mb : ME} {p p2 pos pos2 : Pos}
theorem z_lstRg (hm : X.mg "list" = none) (hm2 : X.mg "range" = none) (ha : PE X a (Em X.K W ma)) (hb : PE X b (Em X.K W mb)) (hc : X.calm = true := by rfl) (hg : Gl X "list" := by rfl) (hg2 : Gl X "range" := by rfl)
    (na2 : starEach [a, b] X.env = (false, eval a X.env) :: starEach [b] X.env := by rfl) (nb : starEach [b] X.env = (false, eval b X.env) :: starEach [] X.env := by rfl) (hp : (backTo pos2 (starEach [b] X.env)).any (·.1) = false := by rfl)
    (na : starEach [.Call (.Name "range" p2) [a, b] [] pos2] X.env = (false, eval (.Call (.Name "range" p2) [a, b] [] pos2) X.env) :: starEach [] X.env := by rfl) :
    PE X (.Call (.Name "list" p) [.Call (.Name "range" p2) [a, b] [] pos2] [] pos) (Em X.K W (mLstRg ma mb)) :=
  PE_imp (pe_listRg hc hg hm (prg_2 hg2 hm2 ha hb na2 nb hp) na) fun σ H Q ⟨ρ, τ, S, s, r, q⟩ => by
    refine Em_bind s r q fun ρ1 H1 S1 v d s1 r1 x1 v1 p1 => ?_
    refine Em_bind s1 r1 p1 fun ρ2 H2 S2 y e s2 r2 x2 v2 p3 => ?_
    split at p3
    · rename_i i j
      cases v1; cases v2
      obtain ⟨hz, p4⟩ := guardR_post p3
      refine ⟨i, j, rfl, rfl, hz, fun q hq => ?_⟩
      have e : rgV i j = (rgI i j).map V.int := by simp [rgV, rgI, List.map_map, Function.comp_def]
      rw [e]
      exact p4.newLst s2 (vrs_ints _) q hq
    · exact p3.elim
end
/-! ### xs.pop(), xs.pop(i), xs.reverse(), xs.clear() -/
section
variable {K : PySem.W.Frag}
end
/-! ### xs.count(y), xs.index(y) over data -/
def findOk (ps : List PyData) (q : PyData) : Bool := (PyData.plainAll ps && q.plain && decide (q.depth ≤ 64)) && decide (ps.length ≤ 16777216)
def rCntP (X : Cx) : V → List V → Hp → VK → Prop := fun x vs H Q => ∃ y ps q, vs = [y] ∧ RdP X H x (.list ps) ∧ RdP X H y q ∧ (∃ a, x = .ref a) ∧ findOk ps q = true ∧ Q (.int (ps.countP fun z => PyData.eqv z q : Nat)) H
def dCountP : D → List D → Sto → R D
  | d, [y], S => (match toPy d S, toPy y S with
    | some (.list ps), some q => if findOk ps q = true then .ok (.int (ps.countP fun z => PyData.eqv z q : Nat)) S else .bad
    | _, _ => .bad)
  | _, _, _ => .bad
theorem list_ref {X : Cx} {ρ : Pl} {H : Hp} {S : Sto} {v : V} {d : D} {ps : List PyData} (r : VR X.K ρ H v d) (h : toPy d S = some (.list ps)) : ∃ a, v = .ref a := by
  cases r <;> first | exact ⟨_, rfl⟩ | (simp [toPy, toPyD] at h)
theorem dCountP_ok {X : Cx} : MethS X.K dCountP (rCntP X) := fun Wk ρ S H v d vs ds Q s r rs h => by
  unfold dCountP at h
  split at h
  · obtain ⟨y, rfl, ry⟩ := vrs1 rs
    split at h
    · rename_i ps q e1 e2
      split at h
      · rename_i c
        exact ⟨y, ps, q, rfl, rdP_of s r e1, rdP_of s ry e2, list_ref r e1, c, h.here s (.int _)⟩
      · exact h.elim
    · exact h.elim
  · exact h.elim
section
variable {X : Cx} {W : WX} {o e : Expr} {m : ME} {ms : MA} {apos cpos : Pos}
theorem mt_cntP (hu : X.A.units + 100 < cLine) : MtR X "list.count" (rCntP X) := by
  intro pins st σ H x xs v us Q I rx rxs ⟨y, ps, q, e1, hx, hy, ⟨a, e2⟩, ok, k⟩
  subst e1 e2
  obtain ⟨u, rfl, ru⟩ := rxs.one
  obtain rfl : v = Value.ref a := rx
  obtain ⟨as, r1⟩ := hx pins σ st _ I rfl
  obtain ⟨bs, r2⟩ := hy pins σ st u I ru
  simp only [findOk, Bool.and_eq_true, decide_eq_true_eq] at ok
  cases r1 with
  | list ho hc hd hr =>
    exact SeqAt.count_list_data (vs := _) ⟨_, ho, hc, _, hd⟩ hr r2 ok.1.1.1 ok.1.1.2 (by omega) ⟨.int _, H, I.tok _, ⟨_, rfl⟩, k⟩
/-- a method of a built-in type with one argument; with none -/
theorem z_m1 {T id : String} {name : Str} {r : V → List V → Hp → VK → Prop} {f : D → List D → Sto → R D} {es : List Expr} (pa : PlainAttrs T) (slot : Slot T name id) (hty : typeOf (.builtin id) = pure (.type "method_descriptor")) (hm : MtR X id r) (hs : MethS X.K f r) (ho : PE X o (Em X.K W m)) (ha : PA X (e :: es) (Am X.K W ms))
    (hbase : attributeBase o name X.env (eval o X.env) = eval o X.env := by rfl)
    (hfew : ((backTo cpos (starEach (e :: es) X.env)).all (fun x => !x.1) && (backToKw cpos (keywordEach [] X.env)).all (fun x => x.1.isSome) && decide ((e :: es).length + ([] : List Keyword).length + (if ([] : List Keyword).isEmpty then 0 else 1) < 30)) = true := by rfl)
    (hline : (apos.endLine == cpos.line) = true := by rfl) (hst : starEach (e :: es) X.env = (false, eval e X.env) :: starEach es X.env := by rfl) (hplain : (backTo cpos (starEach es X.env)).any (·.1) = false := by rfl) :
    PE X (.Call (.Attribute o name apos) (e :: es) [] cpos) (Em X.K W (mMeth T f m ms)) := z_meth pa slot hty hm hs ho ha (pe_bm pa slot hty hm ho ha hbase hfew hline hst hplain)
end
end Z

/-! Z38: the plain side of dicts, locks, while. -/
namespace Z
open PySem L2
/-- what a raise of an error without fields does: told by the law that stands around -/
class Rz where
  rz : Str → MS
end Z

/-! Z39: sorted(xs): whole numbers; rows, of a list or a tuple. -/
namespace Z
open PySem L2 PySem.Spec PyProof.Rows
section
variable {P : Program} {w : World} {A : Around} {E : Value → Shared → Prop} {s : Shared}
end
end Z

/-! Z40: reversed(x). -/
namespace Z
open PySem L2 PySem.Spec
def revOf : D → Sto → Option Items
  | .tup ds, _ => some ⟨ds.reverse, []⟩
  | d, S => (listR d S).map fun ds => ⟨ds.reverse, keepOf d S⟩
def iRev (m : ME) : MI := fun τ S => (m τ S).bind fun d S1 => ofO (revOf d S1) S1
section
variable {K : PySem.W.Frag} {ρ0 : Pl} {H0 : Hp}
end
section
variable {X : Cx} {W : WX} {tg e : Expr} {m : ME} {p pos : Pos}
end
end Z

/-! Z41: rules of the plain side: dicts, locks, while, longer rows for repr. -/
namespace Z
open PySem L2
section
variable {S : Sto} {l : Nat} {ds : List D} {i : Int} {τ : Tau}
@[simp] theorem x_ixAT : dIxA (.tup ds) (.int i) S = ofO (atI ds i) S := rfl
@[simp] theorem x_ixAK : dIxA (.ktup ds) (.int i) S = ofO (atI ds i) S := rfl
@[simp] theorem x_ixAL : dIxA (.lst ds) (.int i) S = ofO (atI ds i) S := rfl
@[simp] theorem x_ixAC : dIxA (.scr ds) (.int i) S = ofO (atI ds i) S := rfl
@[simp] theorem x_ixAdS {ks : List Key} {x : Str} : dIxA (.dct ks ds) (.str x) S = ofO (valG (List.zip ks ds) (.inr x)) S := rfl
@[simp] theorem x_ixAdI {ks : List Key} : dIxA (.dct ks ds) (.int i) S = ofO (valG (List.zip ks ds) (.inl i)) S := rfl
theorem x_ixLl (h : S[l]? = some (.lst ds)) : dIxA (.loc l) (.int i) S = ofO (atI ds i) S := by
  have e : dLook (.loc l) (.int i) S = none := by simp [dLook, h]
  unfold dIxA
  rw [e]
  exact x_ixLoc h
theorem x_ixKS {b : Bool} {kvs : List (Key × D)} {x : Str} (h : S[l]? = some (.dK b kvs)) : dIxA (.loc l) (.str x) S = ofO (valG kvs (.inr x)) S := by
  have e : dLook (.loc l) (.str x) S = some (valG kvs (.inr x)) := by simp [dLook, h, kOf]
  unfold dIxA
  rw [e]
theorem x_ixKI {b : Bool} {kvs : List (Key × D)} (h : S[l]? = some (.dK b kvs)) : dIxA (.loc l) (.int i) S = ofO (valG kvs (.inl i)) S := by
  have e : dLook (.loc l) (.int i) S = some (valG kvs (.inl i)) := by simp [dLook, h, kOf]
  unfold dIxA
  rw [e]
theorem look_KI {b : Bool} {kvs : List (Key × D)} (h : S[l]? = some (.dK b kvs)) : dLook (.loc l) (.int i) S = some (valG kvs (.inl i)) := by simp [dLook, h, kOf]
@[simp] theorem look_dS {ks : List Key} {x : Str} : dLook (.dct ks ds) (.str x) S = some (valG (List.zip ks ds) (.inr x)) := rfl
@[simp] theorem look_dI {ks : List Key} : dLook (.dct ks ds) (.int i) S = some (valG (List.zip ks ds) (.inl i)) := rfl
@[simp] theorem x_subA (o i v : ME) : sSubA o i v τ S = liftS (v τ S) τ fun y S1 => liftS (o τ S1) τ fun a S2 => liftS (i τ S2) τ fun x S3 => match dPut a x y S3 with
    | some S4 => .nx τ S4
    | none => .bad := rfl
@[simp] theorem x_tupS (ts : List TgS) (m : ME) : sTupS ts m τ S = liftS (m τ S) τ fun d S1 => match d with
  | .tup ds => if ds.length = ts.length then asgAll ts ds τ S1 else .bad
  | _ => .bad := rfl
@[simp] theorem x_asg0 : asgAll [] [] τ S = .nx τ S := rfl
@[simp] theorem x_asg1 (t : TgS) (ts : List TgS) (d : D) : asgAll (t :: ts) (d :: ds) τ S = asgS t d τ S fun τ' S' => asgAll ts ds τ' S' := rfl
@[simp] theorem x_asgN (i : Nat) (d : D) (k : Tau → Sto → RS) : asgS (.nm i) d τ S k = k (τ.set i (some d)) S := rfl
@[simp] theorem x_asgS (o i : ME) (d : D) (k : Tau → Sto → RS) : asgS (.sub o i) d τ S k = liftS (o τ S) τ fun a S2 => liftS (i τ S2) τ fun x S3 => match dPut a x d S3 with
    | some S4 => k τ S4
    | none => .bad := rfl
theorem put_KS {kvs : List (Key × D)} {x : Str} {d : D} (h : S[l]? = some (.dK false kvs)) (hz : kvs.length < 16777216) : dPut (.loc l) (.str x) d S = some (S.set l (.dK false (putG kvs (.inr x) d))) := by
  have hz : kvs.length < sizeLine := hz
  simp [dPut, h, hz, kOf]
theorem put_KI {kvs : List (Key × D)} {d : D} (h : S[l]? = some (.dK false kvs)) (hz : kvs.length < 16777216) : dPut (.loc l) (.int i) d S = some (S.set l (.dK false (putG kvs (.inl i) d))) := by
  have hz : kvs.length < sizeLine := hz
  simp [dPut, h, hz, kOf]
theorem put_L {d : D} {j : Nat} (h : S[l]? = some (.lst ds)) (hj : ixN ds.length i = some j) : dPut (.loc l) (.int i) d S = some (S.set l (.lst (ds.set j d))) := by
  simp [dPut, h, hj]
@[simp] theorem x_disp (ps : List (ME × ME)) : mDisp ps τ S = (pairsR ps τ S).bind fun kvs S1 => guardR (dispOk kvs) (.ok (.dct (kvs.map (·.1)) (kvs.map (·.2))) S1) := rfl
@[simp] theorem x_dispN (ps : List (ME × ME)) : mDispN ps τ S = (pairsR ps τ S).bind fun kvs S1 => guardR (dispOk kvs) (.ok (.loc S1.length) (S1 ++ [.dK false kvs])) := rfl
@[simp] theorem x_pairs0 : pairsR [] τ S = .ok [] S := rfl
@[simp] theorem x_pairs1 (p : ME × ME) (r : List (ME × ME)) : pairsR (p :: r) τ S = (p.1 τ S).bind fun x S1 => (p.2 τ S1).bind fun y S2 => (pairsR r τ S2).bind fun ps S3 => match kOf x with
    | some k => .ok ((k, y) :: ps) S3
    | none => .bad := rfl
@[simp] theorem x_kOfS {x : Str} : kOf (.str x) = some (.inr x) := rfl
@[simp] theorem x_kOfI : kOf (.int i) = some (.inl i) := rfl
@[simp] theorem x_dctN : mDctN τ S = .ok (.loc S.length) (S ++ [.dK false []]) := rfl
@[simp] theorem x_dctT : mDctT τ S = .ok (.loc S.length) (S ++ [.dT false []]) := rfl
@[simp] theorem x_get1 (d y : D) : dGet1 d [y] S = match dLook d y S with
    | some o => .ok (o.getD .non) S
    | none => .bad := rfl
@[simp] theorem x_get2 (d y z : D) : dGet2 d [y, z] S = match dLook d y S with
    | some o => .ok (o.getD z) S
    | none => .bad := rfl
@[simp] theorem x_kget (kvs : List (Str × D)) (k : ME) : mKGet kvs k τ S = (k τ S).bind fun y S1 => match y with
  | .str x => .ok ((valG kvs x).getD .non) S1
  | _ => .bad := rfl
@[simp] theorem x_kin (b : Bool) (kvs : List (Str × D)) (k : ME) : dKIn b kvs k τ S = (k τ S).bind fun y S1 => match y with
  | .str x => .ok (.bl (if b then !(valG kvs x).isSome else (valG kvs x).isSome)) S1
  | _ => .bad := rfl
@[simp] theorem x_inA (x y : D) : dInA x y S = ofO ((inP x y S).map .bl) S := rfl
@[simp] theorem x_notInA (x y : D) : dNotInA x y S = ofO ((inP x y S).map fun b => .bl (!b)) S := rfl
@[simp] theorem x_lstRg (a b : ME) : mLstRg a b τ S = (a τ S).bind fun x S1 => (b τ S1).bind fun y S2 => match x, y with
  | .int i, .int j => guardR (-(2 ^ 62) ≤ i ∧ i < 2 ^ 62 ∧ -(2 ^ 62) ≤ j ∧ j < 2 ^ 62 ∧ (j - i).toNat ≤ 2 ^ 24) (.ok (.lst ((rgI i j).map D.int)) S2)
  | _, _ => .bad := rfl
@[simp] theorem x_iItm (m : ME) : iItm m τ S = (m τ S).bind fun d S1 => ofO (itemsOfD d S1) S1 := rfl
@[simp] theorem x_iVal (m : ME) : iVal m τ S = (m τ S).bind fun d S1 => ofO (valsOf d S1) S1 := rfl
@[simp] theorem x_iRev (m : ME) : iRev m τ S = (m τ S).bind fun d S1 => ofO (revOf d S1) S1 := rfl
@[simp] theorem x_fld (c f : Str) (m : ME) : mFld c f m τ S = (m τ S).bind fun d S1 => match d with
  | .loc l => (match S1[l]? with
    | some (.ins c' fs) => if c' = c then ofO (fs.lookup f) S1 else .bad
    | _ => .bad)
  | _ => .bad := rfl
@[simp] theorem x_fldA (c f : Str) (o v : ME) : sFldA c f o v τ S = liftS (v τ S) τ fun y S1 => liftS (o τ S1) τ fun d S2 => match d with
  | .loc l => (match S2[l]? with
    | some (.ins c' fs) => if c' = c ∧ fs.length < 1000 then .nx τ (S2.set l (.ins c (putD f y fs))) else .bad
    | _ => .bad)
  | _ => .bad := rfl
@[simp] theorem x_methO (c m : Str) (h : List D → Sto → R D) (o : ME) (r : MA) : mMethO c m h o r τ S = (o τ S).bind fun d S1 => match d with
  | .loc l => (match S1[l]? with
    | some (.ins c' fs) => if c' = c ∧ fs.lookup m = none then (r τ S1).bind fun ds S2 => noEx (h (.loc l :: ds) S2) else .bad
    | _ => .bad)
  | _ => .bad := rfl
@[simp] theorem x_make (c : Str) (h : List D → Sto → R D) (r : MA) : mMake c h r τ S = (r τ S).bind fun ds S1 => (noEx (h (.loc S1.length :: ds) (S1 ++ [.ins c []]))).bind fun d S2 => match d with
  | .non => .ok (.loc S1.length) S2
  | _ => .bad := rfl
end
/-! ### locks -/
section
variable {S : Sto} {l : Nat} {τ : Tau} {N : Tau → Sto → Prop} {T : D → Sto → Prop}
theorem wpS_unlock {c c' : C} {o : RS} : wpS (unlockS l c c' o) N T ↔ wpS o (fun τ S => S[l]? = some c' ∧ N τ (S.set l c)) (fun d S => S[l]? = some c' ∧ T d (S.set l c)) := by
  cases o with
  | nx τ S =>
    unfold unlockS
    rw [wpS_nx, ← keep1 (l := l) (c := c') (S := S)]
    by_cases h : keepB [(l, c')] S = true <;> simp [h]
  | rt d S =>
    unfold unlockS
    rw [wpS_rt, ← keep1 (l := l) (c := c') (S := S)]
    by_cases h : keepB [(l, c')] S = true <;> simp [h]
  | bk τ S =>
    unfold unlockS
    by_cases h : keepB [(l, c')] S = true <;> simp [h, wpS]
  | ct τ S =>
    unfold unlockS
    by_cases h : keepB [(l, c')] S = true <;> simp [h, wpS]
  | ex τ n fs S => exact Iff.rfl
  | bad => exact Iff.rfl
theorem wpR_unlock {A : Type} {Q : A → Sto → Prop} {c c' : C} {o : R A} : wpR (unlockR l c c' o) Q ↔ wpR o (fun d S => S[l]? = some c' ∧ Q d (S.set l c)) := by
  cases o with
  | ok d S =>
    unfold unlockR
    rw [wpR_ok, ← keep1 (l := l) (c := c') (S := S)]
    by_cases h : keepB [(l, c')] S = true <;> simp [h]
  | ex n fs S => exact Iff.rfl
  | bad => exact Iff.rfl
theorem x_lock {m : ME} {st : MS} {kvs : List (Key × D)} {S0 : Sto} (hm : m τ S = .ok (.loc l) S0) (h : S[l]? = some (.dK false kvs)) : sLock m st τ S = unlockS l (.dK false kvs) (.dK true kvs) (st τ (S.set l (.dK true kvs))) := by
  simp [sLock, locL, hm, h, lockC]
theorem x_lockE {m : ME} {e : ME} {kvs : List (Key × D)} {S0 : Sto} (hm : m τ S = .ok (.loc l) S0) (h : S[l]? = some (.dK false kvs)) : mLock m e τ S = unlockR l (.dK false kvs) (.dK true kvs) (e τ (S.set l (.dK true kvs))) := by
  simp [mLock, locL, hm, h, lockC]
theorem set_back {c c' : C} (h : S[l]? = some c) : (S.set l c').set l c = S := by
  rw [List.set_set]
  obtain ⟨hl, e⟩ := List.getElem?_eq_some_iff.mp h
  rw [← e]
  exact List.set_getElem_self hl
theorem items_locked {kvs : List (Key × D)} (h : S[l]? = some (.dK true kvs)) : itemsOfD (.loc l) S = some ⟨kvs.map pairD, [(l, .dK true kvs)]⟩ := by simp [itemsOfD, h]
theorem vals_locked {kvs : List (Key × D)} (h : S[l]? = some (.dK true kvs)) : valsOf (.loc l) S = some ⟨kvs.map (·.2), [(l, .dK true kvs)]⟩ := by simp [valsOf, h]
theorem keepOk1 {c : C} : keepOk [(l, c)] S ↔ S[l]? = some c := keepB_iff.symm.trans keep1
theorem for_wpK {ks : List (Nat × C)} {g : Tgt} {body : MS} (Inv : List D → Tau → Sto → Prop) (hk : ∀ es τ S, Inv es τ S → keepOk ks S) (step : ∀ d ds τ S, Inv (d :: ds) τ S → ∃ τ1, bindT g d τ = some τ1 ∧ wpS (body τ1 S) (fun τ2 S2 => Inv ds τ2 S2) T)
    (fin : ∀ τ S, Inv [] τ S → N τ S) : ∀ ds τ S, Inv ds τ S → wpS (forL ks g body ds τ S) N T
  | [], τ, S, h => by
    unfold forL
    rw [if_pos (keepB_iff.mpr (hk _ _ _ h))]
    exact fin τ S h
  | d :: ds, τ, S, h => by
    unfold forL
    rw [if_pos (keepB_iff.mpr (hk _ _ _ h))]
    obtain ⟨τ1, e, w⟩ := step d ds τ S h
    rw [e]
    show wpS (match body τ1 S with | .nx τ2 S2 => forL ks g body ds τ2 S2 | .ct τ2 S2 => forL ks g body ds τ2 S2 | .bk τ2 S2 => .nx τ2 S2 | o => o) N T
    cases q : body τ1 S <;> rw [q] at w
    case nx τ2 S2 => exact for_wpK Inv hk step fin ds τ2 S2 w
    all_goals first | exact False.elim w | exact w
/-! ### while -/
theorem while_wp {t : MT} {b : MS} (Inv : Nat → Tau → Sto → Prop) (step : ∀ n τ S, Inv n τ S → wpR (t τ S) fun k S1 => (k = true → ∃ m, n = m + 1 ∧ wpS (b τ S1) (fun τ2 S2 => Inv m τ2 S2) T) ∧ (k = false → N τ S1)) :
    ∀ n τ S, Inv n τ S → wpS (sWhile t b τ S) N T := by
  have main : ∀ n τ S, Inv n τ S → wpS (whileN t b (n + 1) τ S) N T := by
    intro n
    induction n with
    | zero =>
      intro τ S h
      unfold whileN
      rw [wpS_lift]
      refine wpR_imp (step 0 τ S h) fun k S1 ⟨h1, h2⟩ => ?_
      cases k with
      | true => obtain ⟨m, e, _⟩ := h1 rfl; omega
      | false => rw [if_neg (by simp)]; exact h2 rfl
    | succ n ih =>
      intro τ S h
      unfold whileN
      rw [wpS_lift]
      refine wpR_imp (step (n + 1) τ S h) fun k S1 ⟨h1, h2⟩ => ?_
      cases k with
      | true =>
        obtain ⟨m, e, w⟩ := h1 rfl
        have : m = n := by omega
        subst this
        rw [if_pos rfl]
        cases q : b τ S1 <;> rw [q] at w
        case nx τ2 S2 => exact ih τ2 S2 w
        all_goals first | exact False.elim w | exact w
      | false => rw [if_neg (by simp)]; exact h2 rfl
  intro n τ S h
  have w := main n τ S h
  have e : sWhile t b τ S = whileN t b (n + 1) τ S := sWhile_eq fun z => by rw [z] at w; exact w
  rw [e]; exact w
end
/-! ### repr of longer rows: as many things on each level as told -/
def Gq : List Nat → D → Bool
  | _, .non => true
  | _, .bl _ => true
  | _, .int i => decide (i.natAbs < 10 ^ 31)
  | _, .str x => decide (x.length ≤ 8) && x.cps.toList.all fun c => decide (c < 16 ^ 8)
  | k :: ks, .tup ds => decide (ds.length ≤ k) && ds.all (Gq ks)
  | k :: ks, .lst ds => decide (ds.length ≤ k) && ds.all (Gq ks)
  | _, _ => false
def Wq : List Nat → Nat
  | [] => 82
  | k :: ks => k * (Wq ks + 2) + 85
theorem Gq_lst {k : Nat} {ks : List Nat} {ds : List D} (h : ds.length ≤ k) (h2 : ∀ d ∈ ds, Gq ks d = true) : Gq (k :: ks) (.lst ds) = true := by
  simp only [Gq, Bool.and_eq_true, decide_eq_true_eq, List.all_eq_true]; exact ⟨h, h2⟩
structure PyQ (ks : List Nat) (d : D) (p : PyData) : Prop where
  py : toPyD d = some p
  sh : p.showable = true
  nd : p.hasDict = false
  dp : p.depth ≤ ks.length
  ln : p.shown.length ≤ Wq ks
theorem Wq_pos : ∀ ks, 82 ≤ Wq ks
  | [] => Nat.le_refl _
  | k :: ks => by unfold Wq; omega
theorem Gq_all {ks : List Nat} : ∀ {ds : List D}, (∀ d ∈ ds, ∃ p, PyQ ks d p) → ∃ ps, toPyDs ds = some ps ∧ PyData.showableAll ps = true ∧ PyData.hasDictAll ps = false ∧ PyData.depthAll ps ≤ ks.length ∧ ((PyData.shownAll ps).map (·.length)).sum + 2 * (PyData.shownAll ps).length ≤ ds.length * (Wq ks + 2)
  | [], _ => ⟨[], rfl, rfl, rfl, Nat.zero_le _, by simp [PyData.shownAll]⟩
  | d :: ds, h => by
    obtain ⟨p, hp⟩ := h d (by simp)
    obtain ⟨ps, h1, h2, h3, h4, h6⟩ := Gq_all (ks := ks) (ds := ds) fun d hd => h d (by simp [hd])
    refine ⟨p :: ps, ?_, ?_, ?_, ?_, ?_⟩
    · simp only [toPyDs, hp.py, h1]
    · simp only [PyData.showableAll, hp.sh, h2, Bool.and_self]
    · simp only [PyData.hasDictAll, hp.nd, h3, Bool.or_self]
    · simp only [PyData.depthAll]; have := hp.dp; omega
    · simp only [PyData.shownAll, List.map_cons, List.sum_cons, List.length_cons]
      have := hp.ln
      rw [Nat.add_mul]
      omega
theorem Gq_py : ∀ (ks : List Nat) (d : D), Gq ks d = true → ∃ p, PyQ ks d p := by
  have atom : ∀ (ks : List Nat) (d : D), Gd 0 d = true → ∃ p, PyQ ks d p := fun ks d h => by
    obtain ⟨p, hp⟩ := Gd_py 0 d h
    exact ⟨p, hp.py, hp.sh, hp.nd, by have := hp.dp; omega, by have := hp.ln; have := Wq_pos ks; simp [Wd] at *; omega⟩
  intro ks
  induction ks with
  | nil =>
    intro d h
    refine atom [] d ?_
    cases d <;> simp only [Gq, Gd] at h ⊢ <;> first | exact h | rfl | cases h
  | cons k ks ih =>
    intro d h
    cases d with
    | tup ds =>
      simp only [Gq, Bool.and_eq_true, decide_eq_true_eq, List.all_eq_true] at h
      obtain ⟨ps, h1, h2, h3, h4, h6⟩ := Gq_all (ks := ks) fun d hd => ih d (h.2 d hd)
      refine ⟨.tuple ps, by simp [toPyD, h1], by simpa [PyData.showable] using h2, by simpa [PyData.hasDict] using h3, by simp only [PyData.depth, List.length_cons]; omega, ?_⟩
      have e := tupleText_len_le (PyData.shownAll ps)
      have e2 := Nat.mul_le_mul_right (Wq ks + 2) h.1
      show (tupleText (PyData.shownAll ps)).length ≤ k * (Wq ks + 2) + 85
      omega
    | lst ds =>
      simp only [Gq, Bool.and_eq_true, decide_eq_true_eq, List.all_eq_true] at h
      obtain ⟨ps, h1, h2, h3, h4, h6⟩ := Gq_all (ks := ks) fun d hd => ih d (h.2 d hd)
      refine ⟨.list ps, by simp [toPyD, h1], by simpa [PyData.showable] using h2, by simpa [PyData.hasDict] using h3, by simp only [PyData.depth, List.length_cons]; omega, ?_⟩
      have e := listText_len_le (PyData.shownAll ps)
      have e2 := Nat.mul_le_mul_right (Wq ks + 2) h.1
      show (listText (PyData.shownAll ps)).length ≤ k * (Wq ks + 2) + 85
      omega
    | _ =>
      refine atom (k :: ks) _ ?_
      simp only [Gq, Gd] at h ⊢ <;> first | exact h | rfl | cases h
/-- what repr says of data that are short enough -/
theorem repr_of {d : D} {S : Sto} {p : PyData} (h : toPy d S = some p) (h1 : p.showable = true) (h2 : p.hasDict = false) (h3 : p.depth ≤ 64) (h4 : p.shown.length ≤ 16777216) : dRepr [d] S = .ok (.str p.shown) S := by
  show (match toPy d S with | some p => _ | none => _) = _
  rw [h]
  simp [reprOk, h1, h2, h3, show p.shown.length ≤ sizeLine from h4]
theorem repr_ql {ks : List Nat} {ds : List D} {l : Nat} {S : Sto} (h : Gq ks (.lst ds) = true) (hk : ks.length ≤ 64) (hw : Wq ks ≤ 16777216) (hl : S[l]? = some (.lst ds)) : ∃ p, toPyD (.lst ds) = some p ∧ dRepr [.loc l] S = .ok (.str p.shown) S := by
  obtain ⟨p, hp⟩ := Gq_py ks _ h
  refine ⟨p, hp.py, repr_of ?_ hp.sh hp.nd (by have := hp.dp; omega) (by have := hp.ln; omega)⟩
  have := hp.py
  simp only [toPyD] at this
  simp [toPy, hl, this]
end Z

/-! Z42: enumerate of a tuple or a list. -/
namespace Z
open PySem L2
section
variable {X : Cx} {W : WX} {a : Expr} {ms : MA} {p pos : Pos}
end
end Z

/-! Z43: sorted, the list changed later. -/
namespace Z
open PySem L2
end Z

/-! Z44: ranges with a step; list(range(..)) of one and three; dict(pairs); dicts compared. -/
namespace Z
open PySem L2 PySem.Spec PyProof.Rows
/-! ### ranges with a step -/
def rgN (i j c : Int) : Nat := if i < j then ((j - i - 1) / c + 1).toNat else 0
def rgcI (i j c : Int) : List Int := (List.range (rgN i j c)).map fun (k : Nat) => i + (k : Int) * c
abbrev StepOk (i j c : Int) : Prop := (0 ≤ i ∧ i ≤ 1000000) ∧ (0 ≤ j ∧ j ≤ 1000000) ∧ 1 ≤ c ∧ c ≤ 1000000
section
variable {K : PySem.W.Frag} {ρ0 : Pl} {H0 : Hp}
end
section
variable {X : Cx} {W : WX} {tg a b c e : Expr} {m : ME} {ms : MA} {p p2 pos pos2 : Pos}
/-! ### list(range(n)), list(range(i, j, c)) -/
def mLstRg1 (a : ME) : ME := fun τ S => (a τ S).bind fun x S1 => match x with
  | .int j => guardR (-(2 ^ 62) ≤ j ∧ j < 2 ^ 62 ∧ j.toNat ≤ 2 ^ 24) (.ok (.lst ((rgI 0 j).map D.int)) S1)
  | _ => .bad
def mLstRg3 (ms : MA) : ME := fun τ S => (ms τ S).bind fun ds S1 => match ds with
  | [.int i, .int j, .int c] => guardR (StepOk i j c) (.ok (.lst ((rgcI i j c).map D.int)) S1)
  | _ => .bad
end
/-! ### dict(xs), xs a list of pairs: a dict that may be changed -/
section
variable {K : PySem.W.Frag}
end
/-! ### dicts that are alike -/
open Classical in
theorem KR.at {P : V → D → Prop} : ∀ {ws : List (Key × V)} {kvs : List (Key × D)}, KR P ws kvs → ∀ p ∈ ws, ∃ d, (p.1, d) ∈ kvs ∧ P p.2 d
  | _, _, .nil, p, hp => by cases hp
  | _, _, .cons (v := v) (d := d) r rs, p, hp => by
    rcases List.mem_cons.mp hp with rfl | hp
    · exact ⟨_, by simp, r⟩
    · obtain ⟨d, h1, h2⟩ := KR.at rs p hp
      exact ⟨d, by simp [h1], h2⟩
end Z

/-! Z45: is, is not of truths. -/
namespace Z
open PySem L2
def dIsB (neg : Bool) : D → D → Sto → R D := fun x y S => match x, y with
  | .bl a, .bl b => .ok (.bl (if neg then !decide (a = b) else decide (a = b))) S
  | _, _ => .bad
@[simp] theorem x_isB (a b : Bool) (S : Sto) : dIsB false (.bl a) (.bl b) S = .ok (.bl (decide (a = b))) S := rfl
@[simp] theorem x_isnB (a b : Bool) (S : Sto) : dIsB true (.bl a) (.bl b) S = .ok (.bl (!decide (a = b))) S := rfl
end Z

/-! Z46: sorted(xs), xs a list or a tuple of rows, the same row twice or not. -/
namespace Z
open PySem L2 PySem.Spec PyProof.Rows
/-- xs[::-1], xs a list -/
def mRevL (m : ME) : ME := fun τ S => (m τ S).bind fun d S1 => match listR d S1 with
  | some ds => .ok (.lst ds.reverse) S1
  | none => .bad
@[simp] theorem x_revL (m : ME) {τ : Tau} {S : Sto} : mRevL m τ S = (m τ S).bind fun d S1 => match listR d S1 with
  | some ds => .ok (.lst ds.reverse) S1
  | none => .bad := rfl
end Z

/-! Z47: a list made by a comprehension that may be changed. -/
namespace Z
open PySem L2 PySem.Spec
section
variable {K : PySem.W.Frag} {ρ ρ' : Pl} {H H' : Hp} {S : Sto}
theorem Pl.show_out {p a : Addr} (hp : p ∈ ρ.hid) (h : a ∉ ρ) : a ∉ ρ.show p := fun z => by
  rcases z with z | z
  · rcases List.mem_append.mp (show a ∈ ρ.loc ++ [p] from z) with z | z
    · exact h (.inl z)
    · have : a = p := by simpa using z
      subst this; exact h (.inr hp)
  · exact h (.inr (List.mem_filter.mp z).1)
mutual
theorem VR.show {p : Addr} (hp : p ∈ ρ.hid) : ∀ {v : V} {d : D}, VR K ρ H v d → VR K (ρ.show p) H v d
  | _, _, .non => .non
  | _, _, .bl b => .bl b
  | _, _, .int i => .int i
  | _, _, .str x => .str x
  | _, _, .tup h h2 hs => .tup h (Pl.show_out hp h2) (VRs.show hp hs)
  | _, _, .ktup h hs => .ktup h (VRs.show hp hs)
  | _, _, .lst h h2 hs => .lst h (Pl.show_out hp h2) (VRs.show hp hs)
  | _, _, .dct h h2 hk hs => .dct h (Pl.show_out hp h2) hk (VRs.show hp hs)
  | _, _, .scr h hs => .scr (h.imp (fun ⟨o, h1, h2⟩ => ⟨o, h1, Pl.show_out hp h2⟩) id) (VRs.show hp hs)
  | _, _, .loc (l := l) h => .loc (by
    show (ρ.loc ++ [p])[l]? = _
    rw [List.getElem?_append_left (List.getElem?_eq_some_iff.mp h).1]; exact h)
  | _, _, .ob v => .ob v
  | _, _, .fn h => .fn h
theorem VRs.show {p : Addr} (hp : p ∈ ρ.hid) : ∀ {vs : List V} {ds : List D}, VRs K ρ H vs ds → VRs K (ρ.show p) H vs ds
  | _, _, .nil => .nil
  | _, _, .cons h hs => .cons (VR.show hp h) (VRs.show hp hs)
end
end
section
variable {X : Cx} {W : WX} {iter tg elt : Expr} {ifs : List Expr} {scope : Scope} {own : List (Str × Nat)} {mi : MI} {g : Tgt} {t : MT} {me : ME} {pos : Pos}
end
end Z

/-! Z48: repr of a dict that may be changed; of a list or a tuple that holds cells. -/
namespace Z
open PySem L2 PySem.Spec
section
variable {X : Cx} {ρ : Pl} {H : Hp} {S : Sto}
/-! ### things that hold cells -/
end
end Z

/-! Z49: defs as things; a local name that holds a def is called; lambdas where tables stand anywhere in the store; repr of a tuple that holds cells. -/
namespace Z
open PySem L2 PySem.Spec
open L2H (RoomH PinOk cxH inv_startH roomH_of)
section
variable {X : Cx} {W : WX} {x : Str} {p pos : Pos} {e : Expr} {es : List Expr} {mas : MA}
end
section
variable {P : Program} {w : World} {K : PySem.W.Frag} {mg : Str → Option Value} {base : Heap} {kk : Nat}
end
/-! ### lambdas -/
section
variable {K : PySem.W.Frag} {ρ : Pl} {S : Sto} {H : Hp}
end
section
variable {X : Cx} {W : WX}
end
/-! ### repr of a tuple that holds cells -/
section
variable {X : Cx} {ρ : Pl} {H : Hp} {S : Sto}
end
end Z

/-! Z50: x in d.values(), d a dict with tuples for keys. -/
namespace Z
open PySem L2 PySem.Spec
open Sem (wp)
theorem entry_ci : entryFor table "proto.contains_iter" = some Builtin.«proto.contains_iter» := entryFor_of_fast (by kernel_rfl)
theorem plain_ci : plainId "proto.contains_iter" = true := by decide +kernel
theorem vw_no : typeLookup (.type "dict_values") "__contains__" = pure none := by rw [typeLookup_type, builtinLookup_eq_fast]; kernel_rfl
section
variable {prog : Program} {w : World} {A : Around} {R : Result → Shared → Prop} {I : Addr} {fp wr : List Addr} {G : Array GenState → Array GenState → Prop} {n : Nat} {P : Nat → Value → Prop} {St : Nat → Shared → Prop}
theorem codeAny_ci (W : WalksS prog w A.in1 I fp wr G n P St) (H : Heap) (hw : ∀ b o, H.get? b = some o → b ∉ wr) (x : Value) (e : Nat → Bool) (he : ∀ i v (s : Shared), (∀ b o, H.get? b = some o → s.heap.get? b = some o) → P i v → SeqAt.EqAt A.in1 s v x (e i)) :
    ∀ (k i : Nat) (s : Shared), n - i = k → i ≤ n → (∀ b o, H.get? b = some o → s.heap.get? b = some o) → St i s →
      (∀ s', Moved wr G s s' → R (.ok (.ret (.bool (((List.range n).drop i).any e)))) s') → codeAny (model prog w) A (.builtin "proto.contains_iter" ⟨[.ref I, x], []⟩) R s := by
  intro k
  induction k with
  | zero =>
    intro i s hk hi hkeep hst hR
    have hin : i = n := by omega
    subst hin
    refine codeAny_builtin entry_ci ?_
    rw [Around.under_plainId plain_ci _]
    show wpAny _ A.in1 (pyNext (.ref I) >>= _) _ _ s
    refine wpAny_bind (W.done s _ _ hst fun s' hm => ?_)
    refine wpAny_bind (wpAny_rule (wpAny_pure ?_))
    have := hR s' hm
    rw [List.drop_of_length_le (by simp)] at this
    exact this
  | succ k ih =>
    intro i s hk hi hkeep hst hR
    have hlt : i < n := by omega
    have hd : (List.range n).drop i = i :: (List.range n).drop (i + 1) := by
      rw [List.drop_eq_getElem_cons (by simpa using hlt)]; simp
    refine codeAny_builtin entry_ci ?_
    rw [Around.under_plainId plain_ci _]
    show wpAny _ A.in1 (pyNext (.ref I) >>= _) _ _ s
    refine wpAny_bind (W.item i s _ _ hlt hst fun v s' hP hst' hm => ?_)
    have hkeep' : ∀ b o, H.get? b = some o → s'.heap.get? b = some o := fun b o e => hm.heap b o (hw b o e) (hkeep b o e)
    refine wpAny_bind (he i v s' hkeep' hP prog w _ _ ?_)
    cases hb : e i with
    | true =>
      simp only [if_true]
      refine wpAny_bind (wpAny_rule (wpAny_pure ?_))
      have := hR s' hm
      rw [hd, List.any_cons, hb, Bool.true_or] at this
      exact this
    | false =>
      simp only [Bool.false_eq_true, if_false]
      refine wpAny_pure ⟨plainId_quiet plain_ci _, ih (i + 1) s' (by omega) hlt hkeep' hst' fun s'' hm' => ?_⟩
      have := hR s'' (hm.trans W.gtrans hm')
      rw [hd, List.any_cons, hb, Bool.false_or] at this
      exact this
variable {E : Value → Shared → Prop} {s : Shared}
theorem in_view {v d : Addr} {es : Array DictEntry} {ep : Nat} {x : Value} {q : PyData} {bs : List Addr} {ps : List PyData} {Q : Value → Shared → Prop} (hh : A.handled = none) (hv : s.heap.IsValuesView v d) (hm : s.heap.DictRaw d es ep) (hl : ps.length = es.size)
    (hr : ∀ i (hi : i < es.size), ∃ as, Reads s.heap es[i].val (ps.getD i .none) as ∧ (ps.getD i .none).plain = true) (rx : Reads s.heap x q bs) (hq : q.plain = true) (hu : A.units + 1 + q.depth < cLine)
    (h : ∀ s', (∀ b o, s.heap.get? b = some o → s'.heap.get? b = some o) → s'.gens = s.gens → s'.drawn = s.drawn → s'.os = s.os → s.toks ≤ s'.toks → Q (.bool (ps.any fun y => PyData.eqv y q)) s') : wpAny (model prog w) A (compareOp .In x (.ref v)) Q E s := by
  show wpAny _ _ (do return .bool (← contains (.ref v) x)) Q E s
  refine wpAny_bind ?_
  unfold contains
  refine wpAny_holding ?_
  rw [stdlibNamesSay?_of_typeIs hv.typeIs]
  refine wpAny_bind (wpAny_specialOf hv.typeIs vw_no ?_)
  show wpAny _ _ (if ((none : Option Value) == some Value.none) = true then _ else _) _ E s
  rw [if_neg (by simp)]
  refine wpAny_bind (wpAny_callSpecialUnlessNone?_none hv.typeIs vw_no ?_)
  refine wpAny_bind (wpAny_rule ?_)
  refine wpAny_bind ?_
  refine wpAny_tryCatch (wpAny_pyIter_values_raw hv hm ?_)
  have hne : d ≠ s.heap.objs.size := by
    obtain ⟨o, ho, _⟩ := hm
    exact Nat.ne_of_lt (Heap.lt_size ho)
  have W := (Walks.rawValues (prog := prog) (w := w) (A := A.in1) hh s.heap.objs.size d hne es ep).toS
  have keep1 : ∀ b o, s.heap.get? b = some o → (s.heap.push { cls := .type "dict_valueiterator", data := .fields #[.ref d, .int 0 0, .int es.size 0, .int ep 0] }).get? b = some o := fun b o e => Heap.get?_push_of_some _ e
  refine wpAny_bind (wpAny_runValue (codeAny_ci W s.heap (fun b o e hb => ?_) x (fun i => PyData.eqv (ps.getD i .none) q) (fun i v s' hk hP => ?_) es.size 0 _ rfl (Nat.zero_le _) keep1 ?_ fun s' hm' => ?_))
  · have : b = s.heap.objs.size := by simpa using hb
    subst this
    exact Nat.lt_irrefl _ (Heap.lt_size e)
  · obtain ⟨hi, rfl⟩ := hP
    obtain ⟨as, h1, h2⟩ := hr i hi
    refine SeqAt.eqAt_plain _ _ _ _ _ _ _ _ (PyProof.Rows.Reads.keeps hk h1) (PyProof.Rows.Reads.keeps hk rx) h2 hq ?_
    show A.units + 1 + _ < cLine
    have := Nat.min_le_right (PyData.depth (ps.getD i .none)) q.depth
    omega
  · refine ⟨⟨_, Heap.get?_push_size _ rfl, rfl, ?_⟩, hm.at fun o e => keep1 _ _ e⟩
    rfl
  · have e1 : ((List.range es.size).drop 0).any (fun i => PyData.eqv (ps.getD i .none) q) = ps.any fun y => PyData.eqv y q := by
      rw [List.drop_zero, ← hl]
      have : ps = (List.range ps.length).map fun i => ps.getD i .none := by
        refine List.ext_getElem (by simp) fun i h1 h2 => ?_
        simp [List.getD_eq_getElem?_getD, List.getElem?_eq_getElem h1]
      conv => rhs; rw [this]
      rw [List.any_map]
      rfl
    show wpAny _ _ (pure (((List.range es.size).drop 0).any fun i => PyData.eqv (ps.getD i .none) q)) _ _ _
    rw [e1]
    refine wpAny_pure (wpAny_pure ?_)
    exact h s' (fun b o e => hm'.heap b o (by
      intro hb
      have : b = s.heap.objs.size := by simpa using hb
      subst this
      exact Nat.lt_irrefl _ (Heap.lt_size e)) (keep1 b o e)) hm'.gens hm'.drawn hm'.os hm'.toks
end
/-! ### in the layer -/
abbrev VwO (p d : Addr) : HO := .ext fun h => h.IsValuesView p d
def tVw (td : TE) : TE := fun σ H Q => td σ H fun x H1 => ∃ d kvs, x = .ref d ∧ H1 d = some (.dT kvs) ∧ ∀ p, H1 p = none → Q (.ref p) (upd H1 p (VwO p d))
def rInVw (X : Cx) : R2 := fun x y H Q => ∃ v d kvs, ∃ ps : List PyData, ∃ q : PyData, y = .ref v ∧ H v = some (VwO v d) ∧ H d = some (.dT kvs) ∧ ps.length = kvs.length ∧ (∀ (i : Nat) k z, kvs[i]? = some (k, z) → ∃ p, ps[i]? = some p ∧ p.plain = true ∧ RdP X H z p) ∧ RdP X H x q ∧ q.plain = true ∧ q.depth ≤ 64 ∧ Q (.bl (ps.any fun y => PyData.eqv y q)) H
section
variable {X : Cx} {e : Expr} {td : TE} {apos cpos : Pos}
theorem vw_ok {P : Program} {w : World} {H : Hp} {h : Heap} {p d : Addr} (hv : h.IsValuesView p d) : ObjOk P w H h p (VwO p d) :=
  ⟨hv, let ⟨o, e, _⟩ := hv; ⟨o, e⟩, fun h1 h2 ⟨o, e, r⟩ k => ⟨o, k o e, r⟩⟩
theorem pe_vw (he : PE X e td) (hbase : attributeBase e "values" X.env (eval e X.env) = eval e X.env := by rfl) (hline : (apos.endLine == cpos.line) = true := by rfl) : PE X (.Call (.Attribute e "values" apos) [] [] cpos) (tVw td) := by
  refine ⟨fun pins s σ H Q I h => ?_⟩
  refine wpAny_Call_method (T := "dict") (id := "dict.values") hbase rfl hline F.plainAttrs_dict F.slot_dict_values F.type_dict_values (thn (he.run pins s σ H _ I h) fun u s1 ⟨x, H1, I1, rx, d, kvs, ex, hd, q⟩ => ?_)
  subst ex
  obtain rfl : u = Value.ref d := rx
  obtain ⟨_, hs, xs, pr, o, es, ep, ho, hx, hdt, he, _⟩ := I1.hok d _ hd
  have raw : s1.heap.DictRaw d es ep := ⟨o, ho, hx, hdt⟩
  refine ⟨raw.typeIs, fun a ea => ?_, ?_⟩
  · cases ea; exact ⟨o, ho, hx.2.1⟩
  have hfr : H1 s1.heap.objs.size = none := I1.fresh
  have hview : (s1.heap.push { cls := .type "dict_values", data := .fields #[.ref d] }).IsValuesView s1.heap.objs.size d := ⟨_, Heap.get?_push_size _ rfl, rfl, rfl⟩
  have I2 : Inv X pins σ (upd H1 s1.heap.objs.size (VwO s1.heap.objs.size d)) { s1 with heap := s1.heap.push { cls := .type "dict_values", data := .fields #[.ref d] } } :=
    I1.laid (t' := s1.toks) (fun b ob q => Heap.get?_push_of_some _ q) (Nat.le_refl _) (vw_ok hview)
  show wpAny _ _ (callWith cpos (.builtin "dict.values") [.ref d] [] []) _ X.xe s1
  exact method_meetsIn F.slot_dict_values F.entry_dict_values rfl (PySem.evalArgs_none ⟨rfl, raw.typeIs, F.args_dict_values_1 _, _, meets_dict_values_raw d hs, ⟨_, _, raw⟩, ⟨.ref s1.heap.objs.size, _, I2, rfl, q _ hfr⟩⟩)
theorem op_inVw (hc : X.calm = true) (hu : X.A.units + 100 < cLine) : OpR X (compareOp .In) (rInVw X) := fun pins st σ H x y v u Q I rx ry ⟨p, d, kvs, ps, q, e1, hv, hd, hl, hr, hx, hq, hdp, h⟩ => by
  subst e1
  obtain rfl : u = Value.ref p := ry
  obtain ⟨hview, _, _⟩ := I.hok p _ hv
  obtain ⟨_, hs, xs, pr, o, es, ep, ho, hxd, hdt, he, _⟩ := I.hok d _ hd
  obtain ⟨bs, r1⟩ := hx pins σ st v I rx
  have l1 : es.size = xs.length := size_of_entries he
  have l2 : kvs.length = xs.length := Paired.length pr
  refine in_view (ps := ps) (I.ok.hd hc) hview ⟨o, ho, hxd, hdt⟩ (by omega) (fun i hi => ?_) r1 hq (by omega) fun s' hk e1 e2 e3 _ => ?_
  · obtain ⟨⟨k, z⟩, hkz⟩ : ∃ y, kvs[i]? = some y := ⟨kvs[i]'(by omega), List.getElem?_eq_getElem (by omega)⟩
    obtain ⟨b, hb, f1, f2, f3⟩ := paired_get pr hkz
    obtain ⟨p', hp1, hp2, hp3⟩ := hr i k z hkz
    have he2 : es[i].val = b.2.2 := by
      have := entry_at he i
      rw [hb, Array.getElem?_eq_getElem hi] at this
      simp only [Option.map_some, Option.some.injEq] at this
      rw [this]
      rfl
    obtain ⟨as, g⟩ := hp3 pins σ st b.2.2 I f3
    have hd' : ps.getD i .none = p' := by rw [List.getD_eq_getElem?_getD, hp1]; rfl
    exact ⟨as, by rw [he2, hd']; exact g, by rw [hd']; exact hp2⟩
  · obtain ⟨h', g', d', t', o'⟩ := s'
    simp only at e1 e2 e3 hk
    subst e1 e2 e3
    exact ⟨.bl _, H, I.kept (t' := t') hk, rfl, h⟩
end
def dInVals : D → D → Sto → R D := fun x y S => match y with
  | .loc l => (match S[l]? with
    | some (.dT false kvs) => (match toPyDs (kvs.map (·.2)), toPy x S with
      | some ps, some q => if (PyData.plainAll ps && q.plain && decide (q.depth ≤ 64)) = true then .ok (.bl (ps.any fun y => PyData.eqv y q)) S else .bad
      | _, _ => .bad)
    | _ => .bad)
  | _ => .bad
theorem plainAll_at : ∀ {ps : List PyData} {i : Nat} {p : PyData}, PyData.plainAll ps = true → ps[i]? = some p → p.plain = true
  | [], _, _, _, h => by simp at h
  | q :: ps, 0, p, h, e => by
    simp only [PyData.plainAll, Bool.and_eq_true] at h
    simp at e
    subst e
    exact h.1
  | q :: ps, i + 1, p, h, e => by
    simp only [PyData.plainAll, Bool.and_eq_true] at h
    exact plainAll_at h.2 (by simpa using e)
theorem toPyDs_at : ∀ {ds : List D} {ps : List PyData} {i : Nat} {d : D}, toPyDs ds = some ps → ds[i]? = some d → ∃ p, ps[i]? = some p ∧ toPyD d = some p
  | [], _, _, _, _, e => by simp at e
  | d :: ds, ps, i, d', h, e => by
    simp only [toPyDs] at h
    split at h
    · rename_i p qs h1 h2
      cases h
      cases i with
      | zero => simp at e; subst e; exact ⟨p, rfl, h1⟩
      | succ i => exact toPyDs_at (i := i) h2 (by simpa using e)
    · cases h
theorem KR.nth {κ : Type} {P : V → D → Prop} : ∀ {vs : List (κ × V)} {ds : List (κ × D)} {i : Nat} {k : κ} {z : V}, KR P vs ds → vs[i]? = some (k, z) → ∃ d, ds[i]? = some (k, d) ∧ P z d
  | _, _, _, _, _, .nil, e => by simp at e
  | _, _, 0, _, _, .cons h _, e => by simp at e; obtain ⟨rfl, rfl⟩ := e; exact ⟨_, rfl, h⟩
  | _, _, i + 1, _, _, .cons _ hs, e => by
    obtain ⟨d, h1, h2⟩ := KR.nth (i := i) hs (by simpa using e)
    exact ⟨d, by simpa using h1, h2⟩
section
variable {X : Cx} {W : WX} {a e : Expr} {ma mb : ME} {apos cpos pos : Pos}
theorem t_inVals (hu : X.A.units + 100 < cLine) (ha : PE X a (Em X.K W ma)) (hb : PE X e (Em X.K W mb)) (hc : X.calm = true := by rfl) (hbase : attributeBase e "values" X.env (eval e X.env) = eval e X.env := by rfl) (hline : (apos.endLine == cpos.line) = true := by rfl)
    (hm : behindInMarks .In (.Call (.Attribute e "values" apos) [] [] cpos) = false := by first | exact nomark _ | rfl) : PT X (.Compare a [.In] [.Call (.Attribute e "values" apos) [] [] cpos] pos) (Tm X.K W (mB (mBin dInVals ma mb))) :=
  PT_imp (pt_cmpR (op_inVw hc hu) ha (pe_vw hb hbase hline) hm) fun σ H Q h => by
    obtain ⟨ρ, τ, S, s, er, p⟩ := h
    have p' : Post X.K (fun c d H' => W c d σ H') ρ H ((ma τ S).bind fun x S1 => ((mb τ S1).bind fun y S2 => dInVals x y S2).bind asB) relB Q := by
      have : ((mBin dInVals ma mb τ S).bind asB) = ((ma τ S).bind fun x S1 => ((mb τ S1).bind fun y S2 => dInVals x y S2).bind asB) := by
        unfold mBin
        cases ma τ S <;> rfl
      rw [← this]; exact p
    refine Em_bind s er p' fun ρ1 H1 S1 v d s1 e1 x1 v1 p1 => ?_
    have p1' : Post X.K (fun c d H' => W c d σ H') ρ1 H1 ((mb τ S1).bind fun y S2 => (dInVals d y S2).bind asB) relB Q := by
      have : (((mb τ S1).bind fun y S2 => dInVals d y S2).bind asB) = ((mb τ S1).bind fun y S2 => (dInVals d y S2).bind asB) := by
        cases mb τ S1 <;> rfl
      rw [← this]; exact p1
    refine Em_bind s1 e1 p1' fun ρ2 H2 S2 u d2 s2 e2 x2 v2 p2 => ?_
    unfold dInVals at p2
    split at p2
    case h_2 => exact p2.elim
    rename_i l
    split at p2
    case h_2 => exact p2.elim
    rename_i kvs hl
    split at p2
    case h_2 => exact p2.elim
    rename_i ps q hps hq
    split at p2
    case isFalse => exact p2.elim
    rename_i c
    simp only [Bool.and_eq_true, decide_eq_true_eq] at c
    cases v2 with
    | @loc b _ hlb =>
      obtain ⟨ws, h1, h2⟩ := s2.at hlb hl
      refine ⟨b, ws, rfl, h1, fun p hp => ?_⟩
      have x3 : Ext ρ2 H2 ρ2 (upd H2 p (VwO p b)) := Ext.fresh hp
      have s3 : SR X.K ρ2 S2 (upd H2 p (VwO p b)) := s2.laid hp
      have hpb : b ≠ p := ne_of_none h1 hp
      have lw : ws.length = kvs.length := h2.length
      have lp : ps.length = kvs.length := by have := toPyDs_len hps; simpa using this
      refine ⟨p, b, ws, ps, q, rfl, upd_same, by rw [upd_ne hpb]; exact h1, by omega, fun i k z hz => ?_, ?_, c.1.2, c.2, ⟨_, rfl, ?_⟩⟩
      · obtain ⟨dz, g1, g2⟩ := KR.nth h2 hz
        obtain ⟨pz, g3, g4⟩ := toPyDs_at (i := i) (d := dz) hps (by rw [List.getElem?_map, g1]; rfl)
        exact ⟨pz, g3, plainAll_at c.1.1 g3, rdP_of s3 (g2.mono x3) (toPy_of g4)⟩
      · exact rdP_of s3 ((v1.mono x2).mono x3) hq
      · exact p2 ρ2 _ _ x3 s3 rfl
end
end Z

/-! what each def does -/
namespace Pg
open PySem L2 Z 
variable [Rz]
def kd_FORMS : List (Str × D) := [("charge", .ktup [.int 6, .int 6, .int 4, .int 4]), ("bill", .ktup [.int 6, .int 2]), ("hold", .ktup [.int 6]), ("pledge", .ktup [.int 6, .int 6]), ("miss", .ktup [.int 6]), ("over", .ktup [.int 6]), ("move", .ktup [.int 6, .int 4]), ("judge", .ktup [.int 6, .int 2]), ("pardon", .ktup [.int 6, .int 4]), ("aside", .ktup [.int 6])]
noncomputable def m_is_within : List D → Sto → R D := runD 3 3 (sRet (mAndV (mCall dIsa (aCons (mVar 0) (aCons (mC (.ob (.ty "int"))) aNil))) (mAndV (mNotV (mCall dIsa (aCons (mVar 0) (aCons (mC (.ob (.ty "bool"))) aNil)))) (mChain dLe dLe (mVar 1) (mVar 0) (mVar 2)))))
noncomputable def m_is_upto : List D → Sto → R D := runD 2 2 (sRet (mCall m_is_within (aCons (mVar 0) (aCons (mC (.int 0)) (aCons (mBin dSub (mVar 1) (mC (.int 1))) aNil)))))
noncomputable def m_is_sitting : List D → Sto → R D := runD 1 1 (sSeq (sIf (mOr (mNot (mT (mCall dIsa (aCons (mVar 0) (aCons (mC (.ob (.ty "tuple"))) aNil))))) (mB (mBin dNe (mCall dLen (aCons (mVar 0) aNil)) (mC (.int 3))))) (sRet (mC (.bl false))) sNil)
  (sRet (mAndV (mCall m_is_upto (aCons (mBin dIxA (mVar 0) (mC (.int 0))) (aCons (mC (.int 61)) aNil))) (mAndV (mCall m_is_upto (aCons (mBin dIxA (mVar 0) (mC (.int 1))) (aCons (mC (.int 61)) aNil))) (mAndV (mBin dLe (mBin dIxA (mVar 0) (mC (.int 0))) (mBin dIxA (mVar 0) (mC (.int 1)))) (mCall m_is_upto (aCons (mBin dIxA (mVar 0) (mC (.int 2))) (aCons (mC (.int 4)) aNil))))))))
noncomputable def m_is_round : List D → Sto → R D := runD 1 3 (sSeq (sIf (mOr (mNot (mT (mCall dIsa (aCons (mVar 0) (aCons (mC (.ob (.ty "tuple"))) aNil))))) (mNot (mB (mChain dLe dLe (mC (.int 1)) (mCall dLen (aCons (mVar 0) aNil)) (mC (.int 8)))))) (sRet (mC (.bl false))) sNil)
  (sSeq (sIf (mNot (mT (mCall dAll (aCons (mComp (iSeq (mVar 0)) (.nm 1) [1] tYesM (mCall m_is_sitting (aCons (mVar 1) aNil))) aNil)))) (sRet (mC (.bl false))) sNil)
  (sRet (mCall dAll (aCons (mComp (iArgs zipA (aCons (mVar 0) (aCons (mSl (mVar 0) (some (mC (.int 1))) none) aNil))) (.tp [1, 2]) [1, 2] tYesM (mBin dLt (mBin dIxA (mVar 1) (mC (.int 1))) (mBin dIxA (mVar 2) (mC (.int 0))))) aNil)))))
noncomputable def m_is_bench : List D → Sto → R D := runD 1 1 (sSeq (sIf (mOr (mNot (mT (mCall dIsa (aCons (mVar 0) (aCons (mC (.ob (.ty "tuple"))) aNil))))) (mOr (mB (mBin dNe (mCall dLen (aCons (mVar 0) aNil)) (mC (.int 4)))) (mNot (mT (mCall m_is_round (aCons (mBin dIxA (mVar 0) (mC (.int 0))) aNil)))))) (sRet (mC (.bl false))) sNil)
  (sRet (mAndV (mCall m_is_within (aCons (mBin dIxA (mVar 0) (mC (.int 1))) (aCons (mC (.int 1)) (aCons (mC (.int 20)) aNil)))) (mAndV (mCall m_is_within (aCons (mBin dIxA (mVar 0) (mC (.int 2))) (aCons (mC (.int 0)) (aCons (mC (.int 3)) aNil)))) (mCall m_is_within (aCons (mBin dIxA (mVar 0) (mC (.int 3))) (aCons (mC (.int 1)) (aCons (mC (.int 3)) aNil))))))))
noncomputable def m_is_paper : List D → Sto → R D := runD 1 4 (sSeq (sIf (mOr (mNot (mT (mCall dIsa (aCons (mVar 0) (aCons (mC (.ob (.ty "tuple"))) aNil))))) (mOr (mB (mBin dLt (mCall dLen (aCons (mVar 0) aNil)) (mC (.int 2)))) (mNot (mT (mCall dIsa (aCons (mBin dIxA (mVar 0) (mC (.int 1))) (aCons (mC (.ob (.ty "str"))) aNil))))))) (sRet (mC (.bl false))) sNil)
  (sSeq (sAsg 1 (mKGet kd_FORMS (mBin dIxA (mVar 0) (mC (.int 1)))))
  (sSeq (sIf (mOr (mB (mBin (dIsN false) (mVar 1) (mC .non))) (mOr (mB (mBin dNe (mCall dLen (aCons (mVar 0) aNil)) (mBin dAdd (mC (.int 2)) (mCall dLen (aCons (mVar 1) aNil))))) (mNot (mT (mCall m_is_upto (aCons (mBin dIxA (mVar 0) (mC (.int 0))) (aCons (mC (.int 61)) aNil))))))) (sRet (mC (.bl false))) sNil)
  (sRet (mCall dAll (aCons (mComp (iArgs zipA (aCons (mSl (mVar 0) (some (mC (.int 2))) none) (aCons (mVar 1) aNil))) (.tp [2, 3]) [2, 3] tYesM (mCall m_is_upto (aCons (mVar 2) (aCons (mVar 3) aNil)))) aNil))))))
noncomputable def m_is_roll : List D → Sto → R D := runD 1 3 (sSeq (sIf (mOr (mNot (mT (mCall dIsa (aCons (mVar 0) (aCons (mC (.ob (.ty "tuple"))) aNil))))) (mOr (mB (mBin dGt (mCall dLen (aCons (mVar 0) aNil)) (mC (.int 24)))) (mNot (mT (mCall dAll (aCons (mComp (iSeq (mVar 0)) (.nm 1) [1] tYesM (mCall m_is_paper (aCons (mVar 1) aNil))) aNil)))))) (sRet (mC (.bl false))) sNil)
  (sRet (mCall dAll (aCons (mComp (iArgs zipA (aCons (mVar 0) (aCons (mSl (mVar 0) (some (mC (.int 1))) none) aNil))) (.tp [1, 2]) [1, 2] tYesM (mBin dLt (mVar 1) (mVar 2))) aNil))))
noncomputable def m_need_bench : List D → Sto → R D := runD 1 1 (sIf (mNot (mT (mCall m_is_bench (aCons (mVar 0) aNil)))) (Rz.rz "NoBench") sNil)
noncomputable def m_need_paper : List D → Sto → R D := runD 1 1 (sIf (mNot (mT (mCall m_is_paper (aCons (mVar 0) aNil)))) (Rz.rz "NoPaper") sNil)
noncomputable def m_need_roll : List D → Sto → R D := runD 1 1 (sIf (mNot (mT (mCall m_is_roll (aCons (mVar 0) aNil)))) (Rz.rz "NoRoll") sNil)
noncomputable def m_need_both : List D → Sto → R D := runD 2 2 (sSeq (sExpr (mCall m_need_bench (aCons (mVar 0) aNil)))
  (sExpr (mCall m_need_roll (aCons (mVar 1) aNil))))
noncomputable def m_sitting_on : List D → Sto → R D := runD 2 3 (sSeq (sFor (iSeq (mBin dIxA (mVar 0) (mC (.int 0)))) (.nm 2) (sIf (mB (mChain dLe dLe (mBin dIxA (mVar 2) (mC (.int 0))) (mVar 1) (mBin dIxA (mVar 2) (mC (.int 1))))) (sRet (mVar 2)) sNil))
  (sRet (mC .non)))
noncomputable def m_need_in : List D → Sto → R D := runD 2 2 (sIf (mB (mBin dNotInA (mVar 1) (mVar 0))) (Rz.rz "Missing") sNil)
noncomputable def m_without_paper : List D → Sto → R D := runD 2 3 (sRet (mCall dTuple (aCons (mComp (iSeq (mVar 0)) (.nm 2) [2] (mB (mBin dNe (mVar 2) (mVar 1))) (mVar 2)) aNil)))
noncomputable def m_taken_back : List D → Sto → R D := runD 2 2 (sSeq (sExpr (mCall m_need_roll (aCons (mVar 0) aNil)))
  (sSeq (sExpr (mCall m_need_paper (aCons (mVar 1) aNil)))
  (sSeq (sExpr (mCall m_need_in (aCons (mVar 0) (aCons (mVar 1) aNil))))
  (sRet (mCall m_without_paper (aCons (mVar 0) (aCons (mVar 1) aNil)))))))
noncomputable def m_Cause_init : List D → Sto → R D := runD 4 4 (sSeq (sFldA "Cause" "person" (mVar 0) (mVar 1))
  (sSeq (sFldA "Cause" "deed" (mVar 0) (mVar 2))
  (sSeq (sFldA "Cause" "town" (mVar 0) (mVar 3))
  (sSeq (sFldA "Cause" "word" (mVar 0) (mC (.str "charged")))
  (sSeq (sFldA "Cause" "since" (mVar 0) (mC .non))
  (sSeq (sFldA "Cause" "spent" (mVar 0) (mC (.int 0)))
  (sSeq (sFldA "Cause" "past" (mVar 0) (mLst aNil))
  (sSeq (sFldA "Cause" "pledger" (mVar 0) (mC .non))
  (sSeq (sFldA "Cause" "puts" (mVar 0) (mC (.int 0)))
  (sSeq (sFldA "Cause" "until" (mVar 0) (mUn dNeg (mC (.int 1))))
  (sFldA "Cause" "by" (mVar 0) (mC .non))))))))))))
noncomputable def m_Cause_used : List D → Sto → R D := runD 3 3 (sSeq (sIf (mB (mBin (dIsN false) (mFld "Cause" "since" (mVar 0)) (mC .non))) (sRet (mFld "Cause" "spent" (mVar 0))) sNil)
  (sRet (mCall dMin2 (aCons (mVar 1) (aCons (mBin dSub (mBin dAdd (mFld "Cause" "spent" (mVar 0)) (mVar 2)) (mFld "Cause" "since" (mVar 0))) aNil)))))
noncomputable def m_Cause_is_held : List D → Sto → R D := runD 3 3 (sRet (mAndV (mBin (dIsN true) (mFld "Cause" "since" (mVar 0)) (mC .non)) (mBin dLt (mMethO "Cause" "used" (m_Cause_used) (mVar 0) (aCons (mVar 1) (aCons (mVar 2) aNil))) (mVar 1))))
noncomputable def m_Cause_days_to : List D → Sto → R D := runD 3 4 (sSeq (sIf (mB (mBin (dIsN false) (mFld "Cause" "since" (mVar 0)) (mC .non))) (sRet (mCall dList (aCons (mFld "Cause" "past" (mVar 0)) aNil))) sNil)
  (sSeq (sAsg 3 (mBin dSub (mMethO "Cause" "used" (m_Cause_used) (mVar 0) (aCons (mVar 1) (aCons (mBin dAdd (mVar 2) (mC (.int 1))) aNil))) (mFld "Cause" "spent" (mVar 0))))
  (sRet (mBin dAdd (mFld "Cause" "past" (mVar 0)) (mLstRg (mFld "Cause" "since" (mVar 0)) (mBin dAdd (mFld "Cause" "since" (mVar 0)) (mVar 3)))))))
noncomputable def m_Cause_let_go : List D → Sto → R D := runD 3 3 (sSeq (sFldA "Cause" "past" (mVar 0) (mMethO "Cause" "days_to" (m_Cause_days_to) (mVar 0) (aCons (mVar 1) (aCons (mBin dSub (mVar 2) (mC (.int 1))) aNil))))
  (sSeq (sFldA "Cause" "spent" (mVar 0) (mMethO "Cause" "used" (m_Cause_used) (mVar 0) (aCons (mVar 1) (aCons (mVar 2) aNil))))
  (sFldA "Cause" "since" (mVar 0) (mC .non))))
noncomputable def m_Cause_end : List D → Sto → R D := runD 4 4 (sSeq (sExpr (mMethO "Cause" "let_go" (m_Cause_let_go) (mVar 0) (aCons (mVar 1) (aCons (mVar 2) aNil))))
  (sSeq (sFldA "Cause" "pledger" (mVar 0) (mC .non))
  (sFldA "Cause" "word" (mVar 0) (mVar 3))))
noncomputable def m_Reading_init : List D → Sto → R D := runD 4 4 (sSeq (sFldA "Reading" "bench" (mVar 0) (mVar 1))
  (sSeq (sFldA "Reading" "struck" (mVar 0) (mVar 2))
  (sSeq (sFldA "Reading" "done" (mVar 0) (mVar 3))
  (sSeq (sFldA "Reading" "causes" (mVar 0) mDctN)
  (sSeq (sFldA "Reading" "pardons" (mVar 0) (mLstN aNil))
  (sSeq (sFldA "Reading" "words" (mVar 0) (mLstN aNil))
  (sSeq (sFldA "Reading" "lost" (mVar 0) (mLstN aNil))
  (sFldA "Reading" "strike" (mVar 0) (mC .non)))))))))
noncomputable def m_Reading_is_away : List D → Sto → R D := runD 3 4 (sSeq (sAsg 3 (mCall m_sitting_on (aCons (mFld "Reading" "bench" (mVar 0)) (aCons (mVar 2) aNil))))
  (sRet (mOrV (mBin (dIsN false) (mVar 3) (mC .non)) (mBin dNe (mBin dIxA (mVar 3) (mC (.int 2))) (mFld "Cause" "town" (mVar 1))))))
noncomputable def m_Reading_other_judged : List D → Sto → R D := runD 4 6 (sSeq (sLock (mFld "Reading" "causes" (mVar 0)) (sFor (iItm (mFld "Reading" "causes" (mVar 0))) (.tp [4, 5]) (sIf (mAnd (mB (mBin dNe (mVar 4) (mVar 1))) (mAnd (mB (mBin dEq (mTup (aCons (mFld "Cause" "person" (mVar 5)) (aCons (mFld "Cause" "deed" (mVar 5)) aNil))) (mTup (aCons (mVar 2) (aCons (mVar 3) aNil))))) (mB (mBin dInA (mFld "Cause" "word" (mVar 5)) (mC (.ktup [.str "guilty", .str "clear"])))))) (sRet (mC (.bl true))) sNil)))
  (sRet (mC (.bl false))))
noncomputable def m_Reading_judge : List D → Sto → R D := runD 3 3 (sSeq (sIf (mT (mMethO "Reading" "other_judged" (m_Reading_other_judged) (mVar 0) (aCons (mBin dIxA (mVar 1) (mC (.int 2))) (aCons (mFld "Cause" "person" (mVar 2)) (aCons (mFld "Cause" "deed" (mVar 2)) aNil))))) (sRet (mC (.str "judged"))) sNil)
  (sSeq (sExpr (mMethO "Cause" "end" (m_Cause_end) (mVar 2) (aCons (mBin dIxA (mFld "Reading" "bench" (mVar 0)) (mC (.int 1))) (aCons (mBin dIxA (mVar 1) (mC (.int 0))) (aCons (mBin dIxA (mLst (aCons (mC (.str "clear")) (aCons (mC (.str "guilty")) aNil))) (mBin dIxA (mVar 1) (mC (.int 3)))) aNil)))))
  (sSeq (sFldA "Cause" "by" (mVar 2) (mVar 1))
  (sRet (mC (.str "takes"))))))
noncomputable def m_Reading_bill : List D → Sto → R D := runD 4 4 (sSeq (sIf (mB (mBin dEq (mVar 3) (mC (.int 1)))) (sFldA "Cause" "word" (mVar 2) (mC (.str "ready"))) (sExpr (mMethO "Cause" "end" (m_Cause_end) (mVar 2) (aCons (mBin dIxA (mFld "Reading" "bench" (mVar 0)) (mC (.int 1))) (aCons (mVar 1) (aCons (mC (.str "thrown")) aNil))))))
  (sRet (mC (.str "takes"))))
noncomputable def m_Reading_miss : List D → Sto → R D := runD 4 4 (sSeq (sIf (mB (mBin (dIsN false) (mFld "Cause" "pledger" (mVar 2)) (mC .non))) (sRet (mC (.str "bare"))) sNil)
  (sSeq (sExpr (mMeth "list" dAppend (mFld "Reading" "lost" (mVar 0)) (aCons (mTup (aCons (mVar 1) (aCons (mVar 3) (aCons (mFld "Cause" "pledger" (mVar 2)) aNil)))) aNil)))
  (sSeq (sFldA "Cause" "pledger" (mVar 2) (mC .non))
  (sSeq (sIf (mB (mBin dLt (mMethO "Cause" "used" (m_Cause_used) (mVar 2) (aCons (mBin dIxA (mFld "Reading" "bench" (mVar 0)) (mC (.int 1))) (aCons (mVar 1) aNil))) (mBin dIxA (mFld "Reading" "bench" (mVar 0)) (mC (.int 1))))) (sFldA "Cause" "since" (mVar 2) (mVar 1)) sNil)
  (sRet (mC (.str "takes")))))))
noncomputable def m_Reading_put_over : List D → Sto → R D := runD 3 3 (sSeq (sIf (mB (mBin dEq (mFld "Cause" "puts" (mVar 2)) (mBin dIxA (mFld "Reading" "bench" (mVar 0)) (mC (.int 2))))) (sRet (mC (.str "worn"))) sNil)
  (sSeq (sFldA "Cause" "puts" (mVar 2) (mBin dAdd (mFld "Cause" "puts" (mVar 2)) (mC (.int 1))))
  (sSeq (sFldA "Cause" "until" (mVar 2) (mBin dIxA (mCall m_sitting_on (aCons (mFld "Reading" "bench" (mVar 0)) (aCons (mVar 1) aNil))) (mC (.int 1))))
  (sRet (mC (.str "takes"))))))
noncomputable def m_Reading_by_bench : List D → Sto → R D := runD 3 6 (sSeq (sTup [4, 5] (mSl (mVar 1) none (some (mC (.int 2)))))
  (sSeq (sAsg 3 (mMeth "dict" dGet2 (mDisp [((mC (.str "bill")), (mTup (aCons (mC (.str "charged")) aNil))), ((mC (.str "miss")), (mC (.ktup [.str "charged", .str "ready"])))]) (aCons (mVar 5) (aCons (mTup (aCons (mC (.str "ready")) aNil)) aNil))))
  (sSeq (sIf (mB (mBin dNotInA (mFld "Cause" "word" (mVar 2)) (mVar 3))) (sRet (mC (.str "closed"))) sNil)
  (sSeq (sIf (mT (mMethO "Reading" "is_away" (m_Reading_is_away) (mVar 0) (aCons (mVar 2) (aCons (mVar 4) aNil)))) (sRet (mC (.str "away"))) sNil)
  (sSeq (sIf (mB (mBin dEq (mVar 5) (mC (.str "bill")))) (sRet (mMethO "Reading" "bill" (m_Reading_bill) (mVar 0) (aCons (mVar 4) (aCons (mVar 2) (aCons (mBin dIxA (mVar 1) (mC (.int 3))) aNil))))) sNil)
  (sSeq (sIf (mB (mBin dEq (mVar 5) (mC (.str "miss")))) (sRet (mMethO "Reading" "miss" (m_Reading_miss) (mVar 0) (aCons (mVar 4) (aCons (mVar 2) (aCons (mBin dIxA (mVar 1) (mC (.int 2))) aNil))))) sNil)
  (sSeq (sIf (mB (mBin dGe (mFld "Cause" "until" (mVar 2)) (mVar 4))) (sRet (mC (.str "over"))) sNil)
  (sSeq (sIf (mB (mBin dEq (mVar 5) (mC (.str "over")))) (sRet (mMethO "Reading" "put_over" (m_Reading_put_over) (mVar 0) (aCons (mVar 4) (aCons (mVar 2) aNil)))) sNil)
  (sRet (mMethO "Reading" "judge" (m_Reading_judge) (mVar 0) (aCons (mVar 1) (aCons (mVar 2) aNil))))))))))))
noncomputable def m_Reading_charge : List D → Sto → R D := runD 2 8 (sSeq (sTup [2, 3, 4, 5, 6, 7] (mVar 1))
  (sSeq (sIf (mB (mBin dInA (mVar 4) (mFld "Reading" "causes" (mVar 0)))) (sRet (mC (.str "again"))) sNil)
  (sSeq (sIf (mT (mMethO "Reading" "other_judged" (m_Reading_other_judged) (mVar 0) (aCons (mVar 4) (aCons (mVar 5) (aCons (mVar 6) aNil))))) (sRet (mC (.str "judged"))) sNil)
  (sSeq (sIf (mB (mBin dInA (mTup (aCons (mVar 5) (aCons (mVar 6) aNil))) (mFld "Reading" "pardons" (mVar 0)))) (sRet (mC (.str "pardoned"))) sNil)
  (sSeq (sSubA (mFld "Reading" "causes" (mVar 0)) (mVar 4) (mMake "Cause" m_Cause_init (aCons (mVar 5) (aCons (mVar 6) (aCons (mVar 7) aNil)))))
  (sRet (mC (.str "takes"))))))))
noncomputable def m_Reading_pardon : List D → Sto → R D := runD 3 4 (sSeq (sIf (mB (mBin dInA (mVar 2) (mFld "Reading" "pardons" (mVar 0)))) (sRet (mC (.str "again"))) sNil)
  (sSeq (sExpr (mMeth "list" dAppend (mFld "Reading" "pardons" (mVar 0)) (aCons (mVar 2) aNil)))
  (sSeq (sLock (mFld "Reading" "causes" (mVar 0)) (sFor (iVal (mFld "Reading" "causes" (mVar 0))) (.nm 3) (sIf (mAnd (mB (mBin dEq (mTup (aCons (mFld "Cause" "person" (mVar 3)) (aCons (mFld "Cause" "deed" (mVar 3)) aNil))) (mVar 2))) (mB (mBin dInA (mFld "Cause" "word" (mVar 3)) (mC (.ktup [.str "charged", .str "ready"]))))) (sExpr (mMethO "Cause" "end" (m_Cause_end) (mVar 3) (aCons (mBin dIxA (mFld "Reading" "bench" (mVar 0)) (mC (.int 1))) (aCons (mVar 1) (aCons (mC (.str "pardoned")) aNil))))) sNil)))
  (sRet (mC (.str "takes"))))))
noncomputable def m_Reading_aside : List D → Sto → R D := runD 3 3 (sSeq (sIf (mB (mBin dInA (mVar 1) (mFld "Reading" "done" (mVar 0)))) (sRet (mC (.str "takes"))) sNil)
  (sSeq (sIf (mB (mBin dNotInA (mFld "Cause" "word" (mVar 2)) (mC (.ktup [.str "guilty", .str "clear"])))) (sRet (mC (.str "unjudged"))) sNil)
  (sSeq (sFldA "Reading" "strike" (mVar 0) (mTup (aCons (mVar 1) (aCons (mFld "Cause" "by" (mVar 2)) aNil))))
  (sRet (mC (.str "takes"))))))
noncomputable def m_Reading_hold : List D → Sto → R D := runD 3 4 (sSeq (sAsg 3 (mBin dIxA (mFld "Reading" "bench" (mVar 0)) (mC (.int 1))))
  (sSeq (sIf (mB (mBin (dIsN true) (mFld "Cause" "pledger" (mVar 2)) (mC .non))) (sRet (mC (.str "pledged"))) sNil)
  (sSeq (sIf (mT (mMethO "Cause" "is_held" (m_Cause_is_held) (mVar 2) (aCons (mVar 3) (aCons (mVar 1) aNil)))) (sRet (mC (.str "held"))) sNil)
  (sSeq (sIf (mB (mBin dEq (mMethO "Cause" "used" (m_Cause_used) (mVar 2) (aCons (mVar 3) (aCons (mVar 1) aNil))) (mVar 3))) (sRet (mC (.str "spent"))) sNil)
  (sSeq (sExpr (mMethO "Cause" "let_go" (m_Cause_let_go) (mVar 2) (aCons (mVar 3) (aCons (mVar 1) aNil))))
  (sSeq (sFldA "Cause" "since" (mVar 2) (mVar 1))
  (sRet (mC (.str "takes")))))))))
noncomputable def m_Reading_pledge : List D → Sto → R D := runD 4 5 (sSeq (sIf (mNot (mT (mMethO "Cause" "is_held" (m_Cause_is_held) (mVar 2) (aCons (mBin dIxA (mFld "Reading" "bench" (mVar 0)) (mC (.int 1))) (aCons (mVar 1) aNil))))) (sRet (mC (.str "free"))) sNil)
  (sSeq (sIf (mB (mBin dEq (mVar 3) (mFld "Cause" "person" (mVar 2)))) (sRet (mC (.str "self"))) sNil)
  (sSeq (sIf (mB (mBin dEq (mCall dLen (aCons (mLock (mFld "Reading" "causes" (mVar 0)) (mComp (iVal (mFld "Reading" "causes" (mVar 0))) (.nm 4) [4] (mB (mBin dEq (mFld "Cause" "pledger" (mVar 4)) (mVar 3))) (mVar 4))) aNil)) (mBin dIxA (mFld "Reading" "bench" (mVar 0)) (mC (.int 3))))) (sRet (mC (.str "full"))) sNil)
  (sSeq (sExpr (mMethO "Cause" "let_go" (m_Cause_let_go) (mVar 2) (aCons (mBin dIxA (mFld "Reading" "bench" (mVar 0)) (mC (.int 1))) (aCons (mVar 1) aNil))))
  (sSeq (sFldA "Cause" "pledger" (mVar 2) (mVar 3))
  (sRet (mC (.str "takes"))))))))
noncomputable def m_Reading_in_open : List D → Sto → R D := runD 3 3 (sSeq (sIf (mB (mBin dNotInA (mFld "Cause" "word" (mVar 2)) (mC (.ktup [.str "charged", .str "ready"])))) (sRet (mC (.str "closed"))) sNil)
  (sSeq (sIf (mB (mBin dEq (mBin dIxA (mVar 1) (mC (.int 1))) (mC (.str "hold")))) (sRet (mMethO "Reading" "hold" (m_Reading_hold) (mVar 0) (aCons (mBin dIxA (mVar 1) (mC (.int 0))) (aCons (mVar 2) aNil)))) sNil)
  (sSeq (sIf (mB (mBin dEq (mBin dIxA (mVar 1) (mC (.int 1))) (mC (.str "pledge")))) (sRet (mMethO "Reading" "pledge" (m_Reading_pledge) (mVar 0) (aCons (mBin dIxA (mVar 1) (mC (.int 0))) (aCons (mVar 2) (aCons (mBin dIxA (mVar 1) (mC (.int 3))) aNil))))) sNil)
  (sSeq (sIf (mB (mBin dEq (mFld "Cause" "town" (mVar 2)) (mBin dIxA (mVar 1) (mC (.int 3))))) (sRet (mC (.str "there"))) sNil)
  (sSeq (sFldA "Cause" "town" (mVar 2) (mBin dIxA (mVar 1) (mC (.int 3))))
  (sSeq (sFldA "Cause" "until" (mVar 2) (mUn dNeg (mC (.int 1))))
  (sRet (mC (.str "takes")))))))))
noncomputable def m_Reading_read : List D → Sto → R D := runD 2 5 (sSeq (sTup [3, 4] (mSl (mVar 1) none (some (mC (.int 2)))))
  (sSeq (sIf (mB (mBin dInA (mVar 1) (mFld "Reading" "struck" (mVar 0)))) (sRet (mC (.str "struck"))) sNil)
  (sSeq (sIf (mB (mBin dEq (mVar 4) (mC (.str "charge")))) (sRet (mMethO "Reading" "charge" (m_Reading_charge) (mVar 0) (aCons (mVar 1) aNil))) sNil)
  (sSeq (sIf (mB (mBin dEq (mVar 4) (mC (.str "pardon")))) (sRet (mMethO "Reading" "pardon" (m_Reading_pardon) (mVar 0) (aCons (mVar 3) (aCons (mSl (mVar 1) (some (mC (.int 2))) none) aNil)))) sNil)
  (sSeq (sIf (mB (mBin dNotInA (mBin dIxA (mVar 1) (mC (.int 2))) (mFld "Reading" "causes" (mVar 0)))) (sRet (mC (.str "unknown"))) sNil)
  (sSeq (sAsg 2 (mBin dIxA (mFld "Reading" "causes" (mVar 0)) (mBin dIxA (mVar 1) (mC (.int 2)))))
  (sSeq (sIf (mB (mBin dEq (mVar 4) (mC (.str "aside")))) (sRet (mMethO "Reading" "aside" (m_Reading_aside) (mVar 0) (aCons (mVar 1) (aCons (mVar 2) aNil)))) sNil)
  (sSeq (sIf (mB (mBin dInA (mVar 4) (mTup (aCons (mC (.str "hold")) (aCons (mC (.str "pledge")) (aCons (mC (.str "move")) aNil)))))) (sRet (mMethO "Reading" "in_open" (m_Reading_in_open) (mVar 0) (aCons (mVar 1) (aCons (mVar 2) aNil)))) sNil)
  (sRet (mMethO "Reading" "by_bench" (m_Reading_by_bench) (mVar 0) (aCons (mVar 1) (aCons (mVar 2) aNil))))))))))))
noncomputable def m_read_by : List D → Sto → R D := runD 2 6 (sSeq (sPar [2, 3] (aCons mDctT (aCons (mLstN aNil) aNil)))
  (sWhile (mT (mC (.bl true))) (sSeq (sAsg 4 (mMake "Reading" m_Reading_init (aCons (mVar 0) (aCons (mVar 2) (aCons (mVar 3) aNil)))))
  (sSeq (sFor (iSeq (mVar 1)) (.nm 5) (sIf (mB (mBin (dIsN false) (mFld "Reading" "strike" (mVar 4)) (mC .non))) (sExpr (mMeth "list" dAppend (mFld "Reading" "words" (mVar 4)) (aCons (mMethO "Reading" "read" (m_Reading_read) (mVar 4) (aCons (mVar 5) aNil)) aNil))) sNil))
  (sSeq (sIf (mB (mBin (dIsN false) (mFld "Reading" "strike" (mVar 4)) (mC .non))) (sRet (mVar 4)) sNil)
  (sSeq (sExpr (mMeth "list" dAppend (mVar 3) (aCons (mBin dIxA (mFld "Reading" "strike" (mVar 4)) (mC (.int 0))) aNil)))
  (sSubA (mVar 2) (mBin dIxA (mFld "Reading" "strike" (mVar 4)) (mC (.int 1))) (mBin dIxA (mFld "Reading" "strike" (mVar 4)) (mC (.int 0))))))))))
noncomputable def m_outcomes : List D → Sto → R D := runD 2 2 (sSeq (sExpr (mCall m_need_both (aCons (mVar 0) (aCons (mVar 1) aNil))))
  (sRet (mFld "Reading" "words" (mCall m_read_by (aCons (mVar 0) (aCons (mVar 1) aNil))))))
end Pg

/-! what each def does -/
namespace V1
open PySem L2 Z 
variable [Rz]
noncomputable def m_law_cell : List D → Sto → R D := runD 2 2 (sSeq (sIf (mB (mBin dLt (mVar 1) (mCall dLen (aCons (mVar 0) aNil)))) (sRet (mBin dIxA (mVar 0) (mVar 1))) sNil)
  (sRet (mC (.int 0))))
noncomputable def m_law_pen : List D → Sto → R D := runD 1 2 (sSeq (sAsg 1 (mCall dMax2 (aCons (mVar 0) (aCons (mBin dSub (mC (.int 0)) (mVar 0)) aNil))))
  (sRet (mLstN (aCons (mVar 1) (aCons (mCall dInt (aCons (mBin dGe (mVar 1) (mBin dPow (mC (.int 10)) (mC (.int 18)))) aNil)) aNil)))))
noncomputable def m_law_draw : List D → Sto → R D := runD 2 5 (sSeq (sIf (mB (mBin dEq (mBin dIxA (mVar 0) (mC (.int 1))) (mC (.int 1)))) (sSeq (sTup [3, 4] (mCall dDivmod (aCons (mBin dIxA (mVar 0) (mC (.int 0))) (aCons (mVar 1) aNil))))
  (sSeq (sSubA (mVar 0) (mC (.int 0)) (mVar 3))
  (sRet (mVar 4)))) sNil)
  (sSeq (sAsg 2 (mBin dMod (mBin dMul (mBin dAdd (mBin dMod (mBin dIxA (mVar 0) (mC (.int 0))) (mC (.int 2147483647))) (mC (.int 40503))) (mC (.int 69621))) (mC (.int 2147483629))))
  (sSeq (sAsg 2 (mBin dMod (mBin dAdd (mBin dMul (mVar 2) (mVar 2)) (mC (.int 7817))) (mC (.int 2147483587))))
  (sSeq (sSubA (mVar 0) (mC (.int 0)) (mBin dMod (mBin dAdd (mBin dMul (mVar 2) (mC (.int 48271))) (mC (.int 11))) (mC (.int 2147483629))))
  (sRet (mBin dMod (mBin dFdiv (mBin dIxA (mVar 0) (mC (.int 0))) (mC (.int 32))) (mVar 1)))))))
noncomputable def m_law_cause : List D → Sto → R D := runD 3 4 (sSeq (sAsg 3 (mDispN [((mC (.str "word")), (mC (.str "charged"))), ((mC (.str "person")), (mVar 0)), ((mC (.str "deed")), (mVar 1)), ((mC (.str "town")), (mVar 2)), ((mC (.str "since")), (mC .non)), ((mC (.str "past")), (mC (.int 0)))]))
  (sSeq (sExpr (mMeth "dict" dUpdate (mVar 3) (aCons (mDisp [((mC (.str "pledge")), (mC .non)), ((mC (.str "puts")), (mC (.int 0))), ((mC (.str "until")), (mUn dNeg (mC (.int 1)))), ((mC (.str "by")), (mC .non))]) aNil)))
  (sRet (mVar 3))))
noncomputable def m_law_held : List D → Sto → R D := runD 3 3 (sRet (mAndV (mBin (dIsN true) (mBin dIxA (mVar 1) (mC (.str "since"))) (mC .non)) (mBin dLt (mBin dSub (mBin dAdd (mBin dIxA (mVar 1) (mC (.str "past"))) (mVar 2)) (mBin dIxA (mVar 1) (mC (.str "since")))) (mVar 0))))
noncomputable def m_law_free : List D → Sto → R D := runD 3 3 (sSeq (sIf (mB (mBin (dIsN true) (mBin dIxA (mVar 1) (mC (.str "since"))) (mC .non))) (sSubA (mVar 1) (mC (.str "past")) (mCall dMin2 (aCons (mVar 0) (aCons (mBin dSub (mBin dAdd (mBin dIxA (mVar 1) (mC (.str "past"))) (mVar 2)) (mBin dIxA (mVar 1) (mC (.str "since")))) aNil)))) sNil)
  (sSubA (mVar 1) (mC (.str "since")) (mC .non)))
noncomputable def m_law_close : List D → Sto → R D := runD 4 4 (sSeq (sExpr (mCall m_law_free (aCons (mVar 0) (aCons (mVar 1) (aCons (mVar 2) aNil)))))
  (sSeq (sSubA (mVar 1) (mC (.str "pledge")) (mC .non))
  (sSubA (mVar 1) (mC (.str "word")) (mVar 3))))
noncomputable def m_law_last : List D → Sto → R D := runD 3 7 (sSeq (sAsg 3 (mComp (iSeq (mBin dIxA (mVar 0) (mC (.int 0)))) (.tp [4, 5, 6]) [4, 5, 6] (mAnd (mB (mChain dLe dLe (mVar 4) (mVar 1) (mVar 5))) (mB (mBin dEq (mVar 6) (mVar 2)))) (mVar 5)))
  (sRet (mBin dIxA (mBin dAdd (mVar 3) (mLst (aCons (mC .non) aNil))) (mC (.int 0)))))
noncomputable def m_law_judged : List D → Sto → R D := runD 4 7 (sSeq (sLock (mVar 0) (sAsg 4 (mComp (iItm (mVar 0)) (.tp [5, 6]) [5, 6] (mB (mBin dEq (mTup (aCons (mBin dIxA (mVar 6) (mC (.str "person"))) (aCons (mBin dIxA (mVar 6) (mC (.str "deed"))) aNil))) (mTup (aCons (mVar 2) (aCons (mVar 3) aNil))))) (mVar 5))))
  (sRet (mBin dNe (mComp (iSeq (mVar 4)) (.nm 5) [5] (mAnd (mB (mBin dNe (mVar 5) (mVar 1))) (mB (mBin dInA (mBin dIxA (mBin dIxA (mVar 0) (mVar 5)) (mC (.str "word"))) (mTup (aCons (mC (.str "guilty")) (aCons (mC (.str "clear")) aNil)))))) (mVar 5)) (mLst aNil))))
noncomputable def m_law_charge : List D → Sto → R D := runD 3 7 (sSeq (sTup [3, 4, 5, 6] (mSl (mVar 2) (some (mC (.int 2))) none))
  (sSeq (sIf (mB (mBin dInA (mVar 3) (mVar 0))) (sRet (mC (.str "again"))) sNil)
  (sSeq (sIf (mT (mCall m_law_judged (aCons (mVar 0) (aCons (mVar 3) (aCons (mVar 4) (aCons (mVar 5) aNil)))))) (sRet (mC (.str "judged"))) sNil)
  (sSeq (sIf (mB (mBin dInA (mTup (aCons (mVar 4) (aCons (mVar 5) aNil))) (mVar 1))) (sRet (mC (.str "pardoned"))) sNil)
  (sSeq (sSubA (mVar 0) (mVar 3) (mCall m_law_cause (aCons (mVar 4) (aCons (mVar 5) (aCons (mVar 6) aNil)))))
  (sRet (mC (.str "takes"))))))))
noncomputable def m_law_pardon : List D → Sto → R D := runD 4 5 (sSeq (sIf (mB (mBin dInA (mSl (mVar 3) (some (mC (.int 2))) none) (mVar 2))) (sRet (mC (.str "again"))) sNil)
  (sSeq (sExpr (mMeth "list" dAppend (mVar 2) (aCons (mSl (mVar 3) (some (mC (.int 2))) none) aNil)))
  (sSeq (sLock (mVar 1) (sFor (iVal (mVar 1)) (.nm 4) (sIf (mAnd (mB (mBin dEq (mTup (aCons (mBin dIxA (mVar 4) (mC (.str "person"))) (aCons (mBin dIxA (mVar 4) (mC (.str "deed"))) aNil))) (mSl (mVar 3) (some (mC (.int 2))) none))) (mB (mBin dInA (mBin dIxA (mVar 4) (mC (.str "word"))) (mTup (aCons (mC (.str "charged")) (aCons (mC (.str "ready")) aNil)))))) (sExpr (mCall m_law_close (aCons (mVar 0) (aCons (mVar 4) (aCons (mBin dIxA (mVar 3) (mC (.int 0))) (aCons (mC (.str "pardoned")) aNil)))))) sNil)))
  (sRet (mC (.str "takes"))))))
noncomputable def m_law_holds : List D → Sto → R D := runD 3 3 (sSeq (sIf (mB (mBin (dIsN true) (mBin dIxA (mVar 1) (mC (.str "pledge"))) (mC .non))) (sRet (mC (.str "pledged"))) sNil)
  (sSeq (sIf (mT (mCall m_law_held (aCons (mVar 0) (aCons (mVar 1) (aCons (mVar 2) aNil))))) (sRet (mC (.str "held"))) sNil)
  (sSeq (sExpr (mCall m_law_free (aCons (mVar 0) (aCons (mVar 1) (aCons (mVar 2) aNil)))))
  (sSeq (sIf (mB (mBin dEq (mBin dIxA (mVar 1) (mC (.str "past"))) (mVar 0))) (sRet (mC (.str "spent"))) sNil)
  (sSeq (sSubA (mVar 1) (mC (.str "since")) (mVar 2))
  (sRet (mC (.str "takes"))))))))
noncomputable def m_law_pledges : List D → Sto → R D := runD 5 6 (sSeq (sIf (mNot (mT (mCall m_law_held (aCons (mBin dIxA (mVar 0) (mC (.int 1))) (aCons (mVar 2) (aCons (mVar 3) aNil)))))) (sRet (mC (.str "free"))) sNil)
  (sSeq (sIf (mB (mBin dEq (mVar 4) (mBin dIxA (mVar 2) (mC (.str "person"))))) (sRet (mC (.str "self"))) sNil)
  (sSeq (sIf (mB (mBin dGe (mMeth "list" dCountP (mLock (mVar 1) (mComp (iVal (mVar 1)) (.nm 5) [5] tYesM (mBin dIxA (mVar 5) (mC (.str "pledge"))))) (aCons (mVar 4) aNil)) (mBin dIxA (mVar 0) (mC (.int 3))))) (sRet (mC (.str "full"))) sNil)
  (sSeq (sExpr (mCall m_law_free (aCons (mBin dIxA (mVar 0) (mC (.int 1))) (aCons (mVar 2) (aCons (mVar 3) aNil)))))
  (sSeq (sSubA (mVar 2) (mC (.str "pledge")) (mVar 4))
  (sRet (mC (.str "takes"))))))))
noncomputable def m_law_misses : List D → Sto → R D := runD 4 4 (sSeq (sIf (mB (mBin (dIsN false) (mBin dIxA (mVar 1) (mC (.str "pledge"))) (mC .non))) (sRet (mC (.str "bare"))) sNil)
  (sSeq (sExpr (mMeth "list" dAppend (mVar 2) (aCons (mTup (aCons (mBin dIxA (mVar 3) (mC (.int 0))) (aCons (mBin dIxA (mVar 3) (mC (.int 2))) (aCons (mBin dIxA (mVar 1) (mC (.str "pledge"))) aNil)))) aNil)))
  (sSeq (sSubA (mVar 1) (mC (.str "pledge")) (mC .non))
  (sSeq (sIf (mB (mBin dLt (mBin dIxA (mVar 1) (mC (.str "past"))) (mBin dIxA (mVar 0) (mC (.int 1))))) (sSubA (mVar 1) (mC (.str "since")) (mBin dIxA (mVar 3) (mC (.int 0)))) sNil)
  (sRet (mC (.str "takes")))))))
noncomputable def m_law_heard : List D → Sto → R D := runD 4 5 (sSeq (sAsg 4 (mBin dIxA (mVar 3) (mC (.int 0))))
  (sSeq (sIf (mB (mBin dGe (mBin dIxA (mVar 2) (mC (.str "until"))) (mVar 4))) (sRet (mC (.str "over"))) sNil)
  (sSeq (sIf (mB (mBin dEq (mBin dIxA (mVar 3) (mC (.int 1))) (mC (.str "over")))) (sSeq (sIf (mB (mBin dEq (mBin dIxA (mVar 2) (mC (.str "puts"))) (mBin dIxA (mVar 0) (mC (.int 2))))) (sRet (mC (.str "worn"))) sNil)
  (sSeq (sSubA (mVar 2) (mC (.str "puts")) (mBin dAdd (mBin dIxA (mVar 2) (mC (.str "puts"))) (mC (.int 1))))
  (sSeq (sSubA (mVar 2) (mC (.str "until")) (mCall m_law_last (aCons (mVar 0) (aCons (mVar 4) (aCons (mBin dIxA (mVar 2) (mC (.str "town"))) aNil)))))
  (sRet (mC (.str "takes")))))) sNil)
  (sSeq (sIf (mT (mCall m_law_judged (aCons (mVar 1) (aCons (mBin dIxA (mVar 3) (mC (.int 2))) (aCons (mBin dIxA (mVar 2) (mC (.str "person"))) (aCons (mBin dIxA (mVar 2) (mC (.str "deed"))) aNil)))))) (sRet (mC (.str "judged"))) sNil)
  (sSeq (sExpr (mCall m_law_close (aCons (mBin dIxA (mVar 0) (mC (.int 1))) (aCons (mVar 2) (aCons (mVar 4) (aCons (mBin dIxA (mLst (aCons (mC (.str "clear")) (aCons (mC (.str "guilty")) aNil))) (mBin dIxA (mVar 3) (mC (.int 3)))) aNil))))))
  (sSeq (sSubA (mVar 2) (mC (.str "by")) (mVar 3))
  (sRet (mC (.str "takes")))))))))
noncomputable def m_law_done : List D → Sto → R D := runD 4 10 (sSeq (sTup [6, 7, 8] (mSl (mVar 3) none (some (mC (.int 3)))))
  (sSeq (sAsg 4 (mBin dIxA (mVar 1) (mVar 8)))
  (sSeq (sAsg 5 (mIf (mB (mBin dInA (mVar 7) (mTup (aCons (mC (.str "over")) (aCons (mC (.str "judge")) aNil))))) (mLst (aCons (mC (.str "ready")) aNil)) (mSl (mLst (aCons (mC (.str "charged")) (aCons (mC (.str "ready")) aNil))) none (some (mBin dSub (mC (.int 2)) (mCall dInt (aCons (mBin dEq (mVar 7) (mC (.str "bill"))) aNil)))))))
  (sSeq (sIf (mB (mBin dNotInA (mBin dIxA (mVar 4) (mC (.str "word"))) (mVar 5))) (sRet (mC (.str "closed"))) sNil)
  (sSeq (sIf (mB (mBin dEq (mVar 7) (mC (.str "hold")))) (sRet (mCall m_law_holds (aCons (mBin dIxA (mVar 0) (mC (.int 1))) (aCons (mVar 4) (aCons (mVar 6) aNil))))) sNil)
  (sSeq (sIf (mB (mBin dEq (mVar 7) (mC (.str "pledge")))) (sRet (mCall m_law_pledges (aCons (mVar 0) (aCons (mVar 1) (aCons (mVar 4) (aCons (mVar 6) (aCons (mBin dIxA (mVar 3) (mC (.int 3))) aNil))))))) sNil)
  (sSeq (sIf (mB (mBin dEq (mVar 7) (mC (.str "move")))) (sSeq (sTupS [.nm 9, .sub (mVar 4) (mC (.str "town"))] (mTup (aCons (mBin dIxA (mVar 4) (mC (.str "town"))) (aCons (mBin dIxA (mVar 3) (mC (.int 3))) aNil))))
  (sSeq (sSubA (mVar 4) (mC (.str "until")) (mIf (mB (mBin dEq (mVar 9) (mBin dIxA (mVar 3) (mC (.int 3))))) (mBin dIxA (mVar 4) (mC (.str "until"))) (mUn dNeg (mC (.int 1)))))
  (sRet (mIf (mB (mBin dEq (mVar 9) (mBin dIxA (mVar 3) (mC (.int 3))))) (mC (.str "there")) (mC (.str "takes")))))) sNil)
  (sSeq (sIf (mB (mBin (dIsN false) (mCall m_law_last (aCons (mVar 0) (aCons (mVar 6) (aCons (mBin dIxA (mVar 4) (mC (.str "town"))) aNil)))) (mC .non))) (sRet (mC (.str "away"))) sNil)
  (sSeq (sIf (mB (mBin dEq (mVar 7) (mC (.str "miss")))) (sRet (mCall m_law_misses (aCons (mVar 0) (aCons (mVar 4) (aCons (mVar 2) (aCons (mVar 3) aNil)))))) sNil)
  (sSeq (sIf (mB (mBin dNe (mVar 7) (mC (.str "bill")))) (sRet (mCall m_law_heard (aCons (mVar 0) (aCons (mVar 1) (aCons (mVar 4) (aCons (mVar 3) aNil)))))) sNil)
  (sSeq (sIf (mB (mBin dEq (mBin dIxA (mVar 3) (mC (.int 3))) (mC (.int 1)))) (sSubA (mVar 4) (mC (.str "word")) (mC (.str "ready"))) (sExpr (mCall m_law_close (aCons (mBin dIxA (mVar 0) (mC (.int 1))) (aCons (mVar 4) (aCons (mVar 6) (aCons (mC (.str "thrown")) aNil)))))))
  (sRet (mC (.str "takes"))))))))))))))
noncomputable def m_law_pass : List D → Sto → R D := runD 3 8 (sSeq (sTup [4, 5, 6, 7] (mTup (aCons mDctN (aCons (mLstN aNil) (aCons (mLstN aNil) (aCons (mLstN aNil) aNil))))))
  (sSeq (sFor (iSeq (mVar 1)) (.nm 3) (sIf (mB (mBin dInA (mVar 3) (mVar 2))) (sExpr (mMeth "list" dAppend (mVar 6) (aCons (mC (.str "struck")) aNil))) (sIf (mB (mBin dEq (mBin dIxA (mVar 3) (mC (.int 1))) (mC (.str "charge")))) (sExpr (mMeth "list" dAppend (mVar 6) (aCons (mCall m_law_charge (aCons (mVar 4) (aCons (mVar 5) (aCons (mVar 3) aNil)))) aNil))) (sIf (mB (mBin dEq (mBin dIxA (mVar 3) (mC (.int 1))) (mC (.str "pardon")))) (sExpr (mMeth "list" dAppend (mVar 6) (aCons (mCall m_law_pardon (aCons (mBin dIxA (mVar 0) (mC (.int 1))) (aCons (mVar 4) (aCons (mVar 5) (aCons (mVar 3) aNil))))) aNil))) (sIf (mB (mBin dNotInA (mBin dIxA (mVar 3) (mC (.int 2))) (mVar 4))) (sExpr (mMeth "list" dAppend (mVar 6) (aCons (mC (.str "unknown")) aNil))) (sIf (mB (mBin dNe (mBin dIxA (mVar 3) (mC (.int 1))) (mC (.str "aside")))) (sExpr (mMeth "list" dAppend (mVar 6) (aCons (mCall m_law_done (aCons (mVar 0) (aCons (mVar 4) (aCons (mVar 7) (aCons (mVar 3) aNil))))) aNil))) (sIf (mB (mBin dInVals (mVar 3) (mVar 2))) (sExpr (mMeth "list" dAppend (mVar 6) (aCons (mC (.str "takes")) aNil))) (sIf (mB (mBin dNotInA (mBin dIxA (mBin dIxA (mVar 4) (mBin dIxA (mVar 3) (mC (.int 2)))) (mC (.str "word"))) (mTup (aCons (mC (.str "guilty")) (aCons (mC (.str "clear")) aNil))))) (sExpr (mMeth "list" dAppend (mVar 6) (aCons (mC (.str "unjudged")) aNil))) (sRet (mTup (aCons (mVar 6) (aCons (mVar 4) (aCons (mVar 7) (aCons (mTup (aCons (mVar 3) (aCons (mBin dIxA (mBin dIxA (mVar 4) (mBin dIxA (mVar 3) (mC (.int 2)))) (mC (.str "by"))) aNil))) aNil))))))))))))))
  (sRet (mTup (aCons (mVar 6) (aCons (mVar 4) (aCons (mVar 7) (aCons (mC .non) aNil))))))))
noncomputable def m_law_read : List D → Sto → R D := runD 2 7 (sSeq (sAsg 2 mDctT)
  (sWhile (mT (mC (.bl true))) (sSeq (sTup [3, 4, 5, 6] (mCall m_law_pass (aCons (mVar 0) (aCons (mVar 1) (aCons (mVar 2) aNil)))))
  (sSeq (sIf (mB (mBin (dIsN false) (mVar 6) (mC .non))) (sRet (mTup (aCons (mVar 3) (aCons (mVar 4) (aCons (mVar 5) (aCons (mVar 2) aNil)))))) sNil)
  (sSubA (mVar 2) (mBin dIxA (mVar 6) (mC (.int 1))) (mBin dIxA (mVar 6) (mC (.int 0))))))))
end V1

/-! SpA: papers, causes, readings in plain Lean; papers as trees. -/
namespace Sp
open PySem L2 Z

/-! ### rows of keys as data -/
theorem py_row : ∀ ks : List Key, toPyDs (ks.map keyD) = some (ks.map keyPy)
  | [] => rfl
  | k :: ks => by
    simp only [List.map_cons, toPyDs, py_row ks]
    cases k <;> rfl
theorem py_rowD (ks : List Key) : toPyD (rowD ks) = some (.tuple (ks.map keyPy)) := by
  simp [rowD, toPyD, py_row]
theorem plain_keys : ∀ ks : List Key, PyData.plainAll (ks.map keyPy) = true
  | [] => rfl
  | k :: ks => by
    have := plain_keys ks
    cases k <;> simp [keyPy, PyData.plainAll, PyData.plain, this]
theorem depth_keys : ∀ ks : List Key, PyData.depthAll (ks.map keyPy) = 0
  | [] => rfl
  | k :: ks => by
    have := depth_keys ks
    cases k <;> simp [keyPy, PyData.depthAll, PyData.depth, this]
theorem eqv_key (a b : Key) : PyData.eqv (keyPy a) (keyPy b) = decide (a = b) := by
  cases a <;> cases b <;> simp [keyPy, PyData.eqv] <;> rfl
theorem eqv_keys : ∀ a b : List Key, PyData.eqvAll (a.map keyPy) (b.map keyPy) = decide (a = b)
  | [], [] => by simp [PyData.eqvAll]
  | [], _ :: _ => by simp [PyData.eqvAll]
  | _ :: _, [] => by simp [PyData.eqvAll]
  | x :: xs, y :: ys => by
    simp only [List.map_cons, PyData.eqvAll, eqv_key, eqv_keys xs ys, List.cons.injEq]
    by_cases h : x = y <;> simp [h]
theorem eqv_row (a b : List Key) : PyData.eqv (.tuple (a.map keyPy)) (.tuple (b.map keyPy)) = decide (a = b) := by
  simp [PyData.eqv, eqv_keys]
theorem dEq_row (a b : List Key) (S : Sto) : dEq (rowD a) (rowD b) S = .ok (.bl (decide (a = b))) S := by
  have e1 : toPy (rowD a) S = some (.tuple (a.map keyPy)) := py_rowD a
  have e2 : toPy (rowD b) S = some (.tuple (b.map keyPy)) := py_rowD b
  unfold dEq dDat
  rw [e1, e2]
  simp [plainB, PyData.plain, plain_keys, PyData.depth, depth_keys, eqv_row]
theorem dNe_row (a b : List Key) (S : Sto) : dNe (rowD a) (rowD b) S = .ok (.bl (!decide (a = b))) S := by
  have e1 : toPy (rowD a) S = some (.tuple (a.map keyPy)) := py_rowD a
  have e2 : toPy (rowD b) S = some (.tuple (b.map keyPy)) := py_rowD b
  unfold dNe dDat
  rw [e1, e2]
  simp [plainB, PyData.plain, plain_keys, PyData.depth, depth_keys, eqv_row]
theorem py_rows : ∀ ks : List (List Key), toPyDs (ks.map rowD) = some (ks.map fun k => .tuple (k.map keyPy))
  | [] => rfl
  | k :: ks => by simp only [List.map_cons, toPyDs, py_rows ks, py_rowD]
theorem plain_rows : ∀ ks : List (List Key), PyData.plainAll (ks.map fun k => .tuple (k.map keyPy)) = true
  | [] => rfl
  | k :: ks => by simp [PyData.plainAll, PyData.plain, plain_keys, plain_rows ks]
def memB (a : List Key) (ks : List (List Key)) : Bool := ks.any fun k => decide (k = a)
theorem any_rows (a : List Key) (ks : List (List Key)) : (ks.map fun k => PyData.tuple (k.map keyPy)).any (fun y => PyData.eqv y (.tuple (a.map keyPy))) = memB a ks := by
  rw [List.any_map, memB]
  congr 1
  funext k
  exact eqv_row k a
/-- a row in a list of rows, in a tuple of rows -/
theorem in_rows {a : List Key} {ks : List (List Key)} {d : D} {S : Sto} {q : PyData} (h : dLook d (rowD a) S = none) (h2 : ∀ ds, d ≠ .ktup ds) (hd : toPy d S = some q) (hq : q = .list (ks.map fun k => .tuple (k.map keyPy)) ∨ q = .tuple (ks.map fun k => .tuple (k.map keyPy))) : inP (rowD a) d S = some (memB a ks) := by
  have e1 : toPy (rowD a) S = some (.tuple (a.map keyPy)) := py_rowD a
  have hb : inB (.tuple (a.map keyPy)) q = true := by
    rcases hq with rfl | rfl <;> simp [inB, PyData.plain, plain_keys, PyData.depth, depth_keys, plain_rows]
  have hi : inPy (.tuple (a.map keyPy)) q = memB a ks := by
    rcases hq with rfl | rfl <;> exact any_rows a ks
  unfold inP
  rw [h]
  cases d with
  | ktup ds => exact absurd rfl (h2 ds)
  | _ => simp only [rowD] at e1 ⊢ <;> simp only [e1, hd, hb, hi, if_true]
theorem in_rowsL {a : List Key} {ks : List (List Key)} {l : Nat} {S : Sto} (hl : S[l]? = some (.lst (ks.map rowD))) : inP (rowD a) (.loc l) S = some (memB a ks) :=
  in_rows (by simp [dLook, hl]) (fun _ z => nomatch z) (by simp only [toPy, hl, py_rows]; rfl) (.inl rfl)
theorem in_rowsT {a : List Key} {ks : List (List Key)} {S : Sto} : inP (rowD a) (.tup (ks.map rowD)) S = some (memB a ks) :=
  in_rows rfl (fun _ z => nomatch z) (by simp only [toPy, toPyD, py_rows]; rfl) (.inr rfl)
theorem row_keys : ∀ ks : List Key, atomsD (ks.map keyD) = some ks
  | [] => rfl
  | k :: ks => by
    cases k <;> simp [keyD, atomsD, row_keys ks]
@[simp] theorem rowOf_row (k : List Key) : rowOfD (rowD k) = some k := row_keys k
theorem in_dT {a : List Key} {l : Nat} {b : Bool} {kvs : List (List Key × D)} {S : Sto} (hl : S[l]? = some (.dT b kvs)) : inP (rowD a) (.loc l) S = some (valG kvs a).isSome := by
  have e : dLook (.loc l) (rowD a) S = some (valG kvs a) := by simp [dLook, hl]
  unfold inP
  rw [e]
theorem in_dKI {i : Int} {l : Nat} {b : Bool} {kvs : List (Key × D)} {S : Sto} (hl : S[l]? = some (.dK b kvs)) : inP (.int i) (.loc l) S = some (valG kvs (.inl i)).isSome := by
  unfold inP
  rw [look_KI hl]
theorem x_eqSS (x y : Str) (S : Sto) : dEq (.str x) (.str y) S = .ok (.bl (x == y)) S := by
  simp [dDat, toPy, toPyD, plainB, PyData.plain, PyData.depth, PyData.eqv]

/-! ### words, papers -/
inductive Wd where
  | charged | ready | thrown | guilty | clear | pardoned
deriving DecidableEq
def Wd.s : Wd → Str
  | .charged => "charged" | .ready => "ready" | .thrown => "thrown" | .guilty => "guilty" | .clear => "clear" | .pardoned => "pardoned"
def Wd.isOpen : Wd → Bool
  | .charged => true | .ready => true | _ => false
def Wd.judged : Wd → Bool
  | .guilty => true | .clear => true | _ => false
inductive Pa where
  | charge (d c p e t : Int) | bill (d c f : Int) | hold (d c : Int) | pledge (d c p : Int) | miss (d c : Int) | over (d c : Int) | move (d c t : Int) | judge (d c g : Int) | pardon (d p e : Int) | aside (d c : Int)
deriving DecidableEq
def Pa.row : Pa → List Key
  | .charge d c p e t => [.inl d, .inr "charge", .inl c, .inl p, .inl e, .inl t]
  | .bill d c f => [.inl d, .inr "bill", .inl c, .inl f]
  | .hold d c => [.inl d, .inr "hold", .inl c]
  | .pledge d c p => [.inl d, .inr "pledge", .inl c, .inl p]
  | .miss d c => [.inl d, .inr "miss", .inl c]
  | .over d c => [.inl d, .inr "over", .inl c]
  | .move d c t => [.inl d, .inr "move", .inl c, .inl t]
  | .judge d c g => [.inl d, .inr "judge", .inl c, .inl g]
  | .pardon d p e => [.inl d, .inr "pardon", .inl p, .inl e]
  | .aside d c => [.inl d, .inr "aside", .inl c]
def Pa.D (p : Pa) : Z.D := rowD p.row
def Pa.day : Pa → Int
  | .charge d .. => d | .bill d .. => d | .hold d _ => d | .pledge d .. => d | .miss d _ => d | .over d _ => d | .move d .. => d | .judge d .. => d | .pardon d .. => d | .aside d _ => d
theorem row_inj {a b : Pa} : a.row = b.row ↔ a = b := by
  constructor
  · intro h
    cases a <;> cases b <;> simp [Pa.row, ofString_inj] at h <;> simp [h]
  · rintro rfl; rfl
theorem dNe_pa (a b : Pa) (S : Sto) : dNe a.D b.D S = .ok (.bl (!decide (a = b))) S := by
  unfold Pa.D
  rw [dNe_row]
  simp only [row_inj]
theorem mem_rows {a : Pa} {ps : List Pa} : memB a.row (ps.map Pa.row) = decide (a ∈ ps) := by
  induction ps with
  | nil => simp [memB]
  | cons p ps ih =>
    have e : memB a.row ((p :: ps).map Pa.row) = (decide (p.row = a.row) || memB a.row (ps.map Pa.row)) := rfl
    rw [e, ih]
    simp only [row_inj, List.mem_cons]
    by_cases h : p = a
    · subst h; simp
    · have h2 : ¬ a = p := fun e => h e.symm
      simp [h, h2]
theorem map_D (ps : List Pa) : ps.map Pa.D = (ps.map Pa.row).map rowD := by rw [List.map_map]; rfl
theorem in_paL {a : Pa} {ps : List Pa} {l : Nat} {S : Sto} (hl : S[l]? = some (.lst (ps.map Pa.D))) : inP a.D (.loc l) S = some (decide (a ∈ ps)) := by
  rw [map_D] at hl
  unfold Pa.D
  rw [in_rowsL hl]
  simp only [mem_rows]
theorem in_paT {a : Pa} {ps : List Pa} {S : Sto} : inP a.D (.tup (ps.map Pa.D)) S = some (decide (a ∈ ps)) := by
  rw [map_D]
  unfold Pa.D
  rw [in_rowsT]
  simp only [mem_rows]
def struckD (struck : List (Pa × Pa)) : List (List Key × Z.D) := struck.map fun x => (x.1.row, x.2.D)
theorem valG_map {κ κ' α β : Type} [DecidableEq κ] [DecidableEq κ'] (f : κ → κ') (g : α → β) (hf : ∀ a b, f a = f b → a = b) (k : κ) : ∀ kvs : List (κ × α), valG (kvs.map fun x => (f x.1, g x.2)) (f k) = (valG kvs k).map g
  | [] => rfl
  | p :: r => by
    rw [List.map_cons, valG_cons, valG_cons, valG_map f g hf k r]
    by_cases h : p.1 = k
    · simp [h]
    · have : f p.1 ≠ f k := fun e => h (hf _ _ e)
      simp [h, this]
theorem putG_map {κ κ' α β : Type} [DecidableEq κ] [DecidableEq κ'] (f : κ → κ') (g : α → β) (hf : ∀ a b, f a = f b → a = b) (k : κ) (v : α) (kvs : List (κ × α)) : putG (kvs.map fun x => (f x.1, g x.2)) (f k) (g v) = (putG kvs k v).map fun x => (f x.1, g x.2) := by
  unfold putG
  rw [any_valG, any_valG, valG_map f g hf]
  cases valG kvs k with
  | none => simp
  | some x =>
    simp only [Option.map_some, Option.isSome_some, if_true, List.map_map]
    apply List.map_congr_left
    intro p _
    by_cases h : p.1 = k
    · simp [h]
    · have : f p.1 ≠ f k := fun e => h (hf _ _ e)
      simp [h, this]
theorem in_struck {a : Pa} {struck : List (Pa × Pa)} {l : Nat} {b : Bool} {S : Sto} (hl : S[l]? = some (.dT b (struckD struck))) : inP a.D (.loc l) S = some (valG struck a).isSome := by
  unfold Pa.D
  rw [in_dT hl, struckD, valG_map Pa.row Pa.D (fun a b h => row_inj.mp h)]
  simp
end Sp

/-! SpB: the reading of papers in plain Lean. -/
namespace Sp
open PySem L2 Z
structure Be where
  ts : List (Int × Int × Int)
  hold : Int
  puts : Int
  pledges : Int
def tsD (t : Int × Int × Int) : Z.D := .tup [.int t.1, .int t.2.1, .int t.2.2]
def Be.D (b : Be) : Z.D := .tup [.tup (b.ts.map tsD), .int b.hold, .int b.puts, .int b.pledges]
def sitOn (b : Be) (day : Int) : Option (Int × Int × Int) := b.ts.find? fun t => decide (t.1 ≤ day) && decide (day ≤ t.2.1)
structure Ca where
  person : Int
  deed : Int
  town : Int
  word : Wd
  since : Option Int
  spent : Int
  past : List Int
  pledger : Option Int
  puts : Int
  till : Int
  byp : Option Pa
  /-- the day of its charge: nobody but a law keeps it -/
  born : Int
namespace Ca
def new (day person deed town : Int) : Ca := ⟨person, deed, town, .charged, none, 0, [], none, 0, -1, none, day⟩
def used (c : Ca) (most day : Int) : Int := match c.since with
  | none => c.spent
  | some s => min most (c.spent + day - s)
def isHeld (c : Ca) (most day : Int) : Bool := c.since.isSome && decide (c.used most day < most)
def daysTo (c : Ca) (most day : Int) : List Int := match c.since with
  | none => c.past
  | some s => c.past ++ rgI s (s + (c.used most (day + 1) - c.spent))
def letGo (c : Ca) (most day : Int) : Ca := { c with past := c.daysTo most (day - 1), spent := c.used most day, since := none }
def fin (c : Ca) (most day : Int) (w : Wd) : Ca := { c.letGo most day with pledger := none, word := w }
end Ca
structure St where
  causes : List (Int × Ca)
  pardons : List (Int × Int)
  words : List Str
  lost : List (Int × Int × Int)
  strike : Option (Pa × Option Pa)
def St.nil : St := ⟨[], [], [], [], none⟩
def awayB (b : Be) (c : Ca) (day : Int) : Bool := match sitOn b day with
  | none => true
  | some t => decide (t.2.2 ≠ c.town)
def otherJ (st : St) (n p e : Int) : Bool := st.causes.any fun x => decide (x.1 ≠ n) && (decide (x.2.person = p ∧ x.2.deed = e) && x.2.word.judged)
def setC (cs : List (Int × Ca)) (n : Int) (c : Ca) : List (Int × Ca) := cs.map fun x => if x.1 = n then (x.1, c) else x
def St.setC (st : St) (n : Int) (c : Ca) : St := { st with causes := Sp.setC st.causes n c }
def pledgeN (st : St) (q : Int) : Nat := (st.causes.filter fun x => decide (x.2.pledger = some q)).length
def doCharge (st : St) (d n p e t : Int) : Str × St :=
  if (valG st.causes n).isSome then ("again", st)
  else if otherJ st n p e then ("judged", st)
  else if (p, e) ∈ st.pardons then ("pardoned", st)
  else ("takes", { st with causes := st.causes ++ [(n, Ca.new d p e t)] })
def pardC (most d p e : Int) (c : Ca) : Ca := if (c.person = p ∧ c.deed = e) ∧ c.word.isOpen = true then c.fin most d .pardoned else c
def doPardon (b : Be) (st : St) (d p e : Int) : Str × St :=
  if (p, e) ∈ st.pardons then ("again", st)
  else ("takes", { st with pardons := st.pardons ++ [(p, e)], causes := st.causes.map fun x => (x.1, pardC b.hold d p e x.2) })
def doAside (dn : List Pa) (st : St) (p : Pa) (c : Ca) : Str × St :=
  if p ∈ dn then ("takes", st)
  else if c.word.judged = false then ("unjudged", st)
  else ("takes", { st with strike := some (p, c.byp) })
def doHold (b : Be) (st : St) (d n : Int) (c : Ca) : Str × St :=
  if c.pledger.isSome then ("pledged", st)
  else if c.isHeld b.hold d then ("held", st)
  else if c.used b.hold d = b.hold then ("spent", st)
  else ("takes", st.setC n { c.letGo b.hold d with since := some d })
def doPledge (b : Be) (st : St) (d n q : Int) (c : Ca) : Str × St :=
  if c.isHeld b.hold d = false then ("free", st)
  else if q = c.person then ("self", st)
  else if (pledgeN st q : Int) = b.pledges then ("full", st)
  else ("takes", st.setC n { c.letGo b.hold d with pledger := some q })
def doMove (st : St) (n t : Int) (c : Ca) : Str × St :=
  if c.town = t then ("there", st)
  else ("takes", st.setC n { c with town := t, till := -1 })
def doBill (b : Be) (st : St) (d n g : Int) (c : Ca) : Str × St :=
  ("takes", st.setC n (if g = 1 then { c with word := .ready } else c.fin b.hold d .thrown))
def doMiss (b : Be) (st : St) (d n : Int) (c : Ca) : Str × St := match c.pledger with
  | none => ("bare", st)
  | some q => ("takes", ({ st with lost := st.lost ++ [(d, n, q)] } : St).setC n { c with pledger := none, since := if c.used b.hold d < b.hold then some d else c.since })
def lastOn (b : Be) (d : Int) : Int := match sitOn b d with
  | none => 0
  | some t => t.2.1
def doOver (b : Be) (st : St) (d n : Int) (c : Ca) : Str × St :=
  if c.till ≥ d then ("over", st)
  else if c.puts = b.puts then ("worn", st)
  else ("takes", st.setC n { c with puts := c.puts + 1, till := lastOn b d })
def verd (g : Int) : Wd := if g = 0 then .clear else .guilty
def doJudge (b : Be) (st : St) (d n g : Int) (c : Ca) : Str × St :=
  if c.till ≥ d then ("over", st)
  else if otherJ st n c.person c.deed then ("judged", st)
  else ("takes", st.setC n { c.fin b.hold d (verd g) with byp := some (.judge d n g) })
def inOpen (c : Ca) (st : St) (r : Str × St) : Str × St := if c.word.isOpen then r else ("closed", st)
def byBench (b : Be) (ok : Bool) (c : Ca) (d : Int) (st : St) (r : Str × St) : Str × St := if ok then (if awayB b c d then ("away", st) else r) else ("closed", st)
def withC (st : St) (n : Int) (f : Ca → Str × St) : Str × St := match valG st.causes n with
  | none => ("unknown", st)
  | some c => f c
def rdP (b : Be) (dn : List Pa) (st : St) (p : Pa) : Str × St := match p with
  | .charge d n q e t => doCharge st d n q e t
  | .pardon d q e => doPardon b st d q e
  | .aside _ n => withC st n fun c => doAside dn st p c
  | .hold d n => withC st n fun c => inOpen c st (doHold b st d n c)
  | .pledge d n q => withC st n fun c => inOpen c st (doPledge b st d n q c)
  | .move _ n t => withC st n fun c => inOpen c st (doMove st n t c)
  | .bill d n g => withC st n fun c => byBench b (c.word == .charged) c d st (doBill b st d n g c)
  | .miss d n => withC st n fun c => byBench b c.word.isOpen c d st (doMiss b st d n c)
  | .over d n => withC st n fun c => byBench b (c.word == .ready) c d st (doOver b st d n c)
  | .judge d n g => withC st n fun c => byBench b (c.word == .ready) c d st (doJudge b st d n g c)
def rd (b : Be) (sk : List (Pa × Pa)) (dn : List Pa) (st : St) (p : Pa) : Str × St :=
  if (valG sk p).isSome then ("struck", st) else rdP b dn st p
def step (b : Be) (sk : List (Pa × Pa)) (dn : List Pa) (st : St) (p : Pa) : St :=
  if st.strike.isSome then st else { (rd b sk dn st p).2 with words := (rd b sk dn st p).2.words ++ [(rd b sk dn st p).1] }
def pass (b : Be) (sk : List (Pa × Pa)) (dn : List Pa) (ps : List Pa) : St := ps.foldl (step b sk dn) St.nil
def loop (b : Be) (ps : List Pa) : Nat → List (Pa × Pa) → List Pa → St × List (Pa × Pa) × List Pa
  | 0, sk, dn => (pass b sk dn ps, sk, dn)
  | n + 1, sk, dn => match (pass b sk dn ps).strike with
    | none => (pass b sk dn ps, sk, dn)
    | some (p, j) => loop b ps n (putG sk (j.getD p) p) (dn ++ [p])
def readAll (b : Be) (ps : List Pa) : St × List (Pa × Pa) × List Pa := loop b ps ps.length [] []
def reading (b : Be) (ps : List Pa) : St := (readAll b ps).1
def upto (ps : List Pa) (d : Int) : List Pa := ps.filter fun p => decide (p.day ≤ d)
/-- a paper's numbers are in their ranges -/
def okP : Pa → Prop
  | .charge d c p e t => (0 ≤ d ∧ d ≤ 60) ∧ (0 ≤ c ∧ c ≤ 5) ∧ (0 ≤ p ∧ p ≤ 5) ∧ (0 ≤ e ∧ e ≤ 3) ∧ (0 ≤ t ∧ t ≤ 3)
  | .bill d c f => (0 ≤ d ∧ d ≤ 60) ∧ (0 ≤ c ∧ c ≤ 5) ∧ (0 ≤ f ∧ f ≤ 1)
  | .hold d c => (0 ≤ d ∧ d ≤ 60) ∧ (0 ≤ c ∧ c ≤ 5)
  | .pledge d c p => (0 ≤ d ∧ d ≤ 60) ∧ (0 ≤ c ∧ c ≤ 5) ∧ (0 ≤ p ∧ p ≤ 5)
  | .miss d c => (0 ≤ d ∧ d ≤ 60) ∧ (0 ≤ c ∧ c ≤ 5)
  | .over d c => (0 ≤ d ∧ d ≤ 60) ∧ (0 ≤ c ∧ c ≤ 5)
  | .move d c t => (0 ≤ d ∧ d ≤ 60) ∧ (0 ≤ c ∧ c ≤ 5) ∧ (0 ≤ t ∧ t ≤ 3)
  | .judge d c g => (0 ≤ d ∧ d ≤ 60) ∧ (0 ≤ c ∧ c ≤ 5) ∧ (0 ≤ g ∧ g ≤ 1)
  | .pardon d p e => (0 ≤ d ∧ d ≤ 60) ∧ (0 ≤ p ∧ p ≤ 5) ∧ (0 ≤ e ∧ e ≤ 3)
  | .aside d c => (0 ≤ d ∧ d ≤ 60) ∧ (0 ≤ c ∧ c ≤ 5)
theorem okP_day {p : Pa} (h : okP p) : 0 ≤ p.day ∧ p.day ≤ 60 := by cases p <;> exact h.1
/-- as many asides as may still strike -/
def asides (ps dn : List Pa) : Nat := (ps.filter fun p => decide (p ∉ dn)).length
end Sp

/-! SpK: what stays true as papers are read. -/
namespace Sp
open PySem L2 Z
structure OkB (b : Be) : Prop where
  hold : 1 ≤ b.hold ∧ b.hold ≤ 20
  puts : 0 ≤ b.puts ∧ b.puts ≤ 3
  pled : 1 ≤ b.pledges ∧ b.pledges ≤ 3
  ts : ∀ t ∈ b.ts, 0 ≤ t.1 ∧ t.1 ≤ t.2.1 ∧ t.2.1 ≤ 60 ∧ 0 ≤ t.2.2 ∧ t.2.2 ≤ 3
structure OkC (b : Be) (D n : Int) (c : Ca) : Prop where
  sp : 0 ≤ c.spent ∧ c.spent ≤ b.hold
  pl : (c.past.length : Int) = c.spent
  pd : ∀ x ∈ c.past, 0 ≤ x ∧ x < D
  so : c.past.Pairwise (· < ·)
  si : ∀ s, c.since = some s → 0 ≤ s ∧ s ≤ D ∧ (∀ x ∈ c.past, x < s) ∧ c.pledger = none
  cl : c.word.isOpen = false → c.since = none ∧ c.pledger = none
  jd : c.word.judged = true → ∃ d g, c.byp = some (.judge d n g) ∧ d ≤ D
  n0 : 0 ≤ n ∧ n ≤ 5
  n1 : 0 ≤ c.person ∧ c.person ≤ 5
  n2 : 0 ≤ c.deed ∧ c.deed ≤ 3
  n3 : 0 ≤ c.town ∧ c.town ≤ 3
  n4 : -1 ≤ c.till ∧ c.till ≤ 60
  n5 : ∀ q, c.pledger = some q → 0 ≤ q ∧ q ≤ 5
  n6 : 0 ≤ c.puts ∧ c.puts ≤ b.puts
  n7 : 0 ≤ c.born ∧ c.born ≤ D
theorem OkC.mono {b : Be} {D D' n : Int} {c : Ca} (h : OkC b D n c) (hD : D ≤ D') : OkC b D' n c :=
  { h with
    pd := fun x hx => ⟨(h.pd x hx).1, by have := (h.pd x hx).2; omega⟩
    si := fun s hs => ⟨(h.si s hs).1, by have := (h.si s hs).2.1; omega, (h.si s hs).2.2⟩
    jd := fun hj => by obtain ⟨d, g, e, hd⟩ := h.jd hj; exact ⟨d, g, e, by omega⟩
    n7 := by have := h.n7; omega }
theorem mem_rgI {a b x : Int} : x ∈ rgI a b ↔ a ≤ x ∧ x < b := by
  unfold rgI
  simp only [List.mem_map, List.mem_range]
  constructor
  · rintro ⟨k, hk, rfl⟩; omega
  · rintro ⟨h1, h2⟩; exact ⟨(x - a).toNat, by omega, by omega⟩
theorem rgI_so (a b : Int) : (rgI a b).Pairwise (· < ·) := by
  unfold rgI
  rw [List.pairwise_map]
  refine List.Pairwise.imp ?_ (List.pairwise_lt_range)
  intro i j h; omega
theorem rgI_len (a b : Int) : (rgI a b).length = (b - a).toNat := by simp [rgI]
section
variable {b : Be} {D n d : Int} {c : Ca}
theorem used_rg (h : OkC b D n c) (hd : D ≤ d) : c.spent ≤ c.used b.hold d ∧ c.used b.hold d ≤ b.hold ∧ ∀ s, c.since = some s → c.used b.hold d ≤ c.spent + d - s := by
  have := h.sp
  unfold Ca.used
  cases e : c.since with
  | none => exact ⟨Int.le_refl _, this.2, fun s hs => nomatch hs⟩
  | some s =>
    have := (h.si s e).2.1
    refine ⟨by simp only; omega, by simp only; omega, fun s' hs => ?_⟩
    cases hs
    simp only; omega
theorem letgo_c (h : OkC b D n c) (hd : D ≤ d) (h0 : 0 ≤ D) : OkC b d n (c.letGo b.hold d) := by
  have hu := used_rg h hd
  have hs := h.sp
  have hd1 : d - 1 + 1 = d := by omega
  have pl : ((c.letGo b.hold d).past.length : Int) = c.used b.hold d := by
    show ((c.daysTo b.hold (d - 1)).length : Int) = _
    unfold Ca.daysTo
    cases e : c.since with
    | none => simp only [h.pl]; simp [Ca.used, e]
    | some s =>
      simp only [List.length_append, rgI_len, hd1]
      have := h.pl
      omega
  have pm : ∀ x ∈ (c.letGo b.hold d).past, x ∈ c.past ∨ ∃ s, c.since = some s ∧ s ≤ x ∧ x < d := by
    intro x hx
    have hx : x ∈ c.daysTo b.hold (d - 1) := hx
    unfold Ca.daysTo at hx
    cases e : c.since with
    | none => rw [e] at hx; exact .inl hx
    | some s =>
      rw [e] at hx
      rcases List.mem_append.mp hx with hx | hx
      · exact .inl hx
      · rw [mem_rgI, hd1] at hx
        have := hu.2.2 s e
        exact .inr ⟨s, rfl, hx.1, by omega⟩
  exact {
    sp := ⟨by show 0 ≤ c.used b.hold d; omega, hu.2.1⟩
    pl := pl
    pd := fun x hx => by
      rcases pm x hx with hx | ⟨s, hs, h1, h2⟩
      · have := h.pd x hx; omega
      · have := (h.si s hs).1; omega
    so := by
      show (c.daysTo b.hold (d - 1)).Pairwise (· < ·)
      unfold Ca.daysTo
      cases e : c.since with
      | none => exact h.so
      | some s =>
        refine List.pairwise_append.mpr ⟨h.so, rgI_so _ _, fun x hx y hy => ?_⟩
        have := (h.si s e).2.2.1 x hx
        have := (mem_rgI.mp hy).1
        omega
    si := fun s hs => nomatch hs
    cl := fun hw => ⟨rfl, (h.cl hw).2⟩
    jd := fun hj => by obtain ⟨d', g, e, h3⟩ := h.jd hj; exact ⟨d', g, e, by omega⟩
    n0 := h.n0, n1 := h.n1, n2 := h.n2, n3 := h.n3, n4 := h.n4, n5 := h.n5, n6 := h.n6, n7 := by have h7 := h.n7; exact ⟨h7.1, Int.le_trans h7.2 hd⟩ }
theorem fin_c (h : OkC b D n c) (hd : D ≤ d) (h0 : 0 ≤ D) {w : Wd} (hw : w.judged = false) : OkC b d n (c.fin b.hold d w) :=
  { letgo_c h hd h0 with
    si := fun s hs => nomatch hs
    cl := fun _ => ⟨rfl, rfl⟩
    jd := fun hj => by rw [show (c.fin b.hold d w).word = w from rfl, hw] at hj; cases hj
    n5 := fun q hq => nomatch hq }
end
def okW (w : Str) : Prop := w ∈ (["struck", "again", "judged", "pardoned", "takes", "unknown", "unjudged", "closed", "pledged", "held", "spent", "free", "self", "full", "there", "away", "bare", "over", "worn"] : List Str)
structure OkS (b : Be) (D : Int) (k : Nat) (st : St) : Prop where
  cs : ∀ x ∈ st.causes, OkC b D x.1 x.2
  nd : (st.causes.map (·.1)).Nodup
  l1 : st.causes.length ≤ k
  l2 : st.pardons.length ≤ k
  l3 : st.words.length ≤ k
  l4 : st.lost.length ≤ k
  pa : ∀ x ∈ st.pardons, (0 ≤ x.1 ∧ x.1 ≤ 5) ∧ 0 ≤ x.2 ∧ x.2 ≤ 3
  lo : ∀ x ∈ st.lost, (0 ≤ x.1 ∧ x.1 ≤ 60) ∧ (0 ≤ x.2.1 ∧ x.2.1 ≤ 5) ∧ 0 ≤ x.2.2 ∧ x.2.2 ≤ 5
  wo : ∀ x ∈ st.words, okW x
theorem OkS.mono {b : Be} {D D' : Int} {k k' : Nat} {st : St} (h : OkS b D k st) (hD : D ≤ D') (hk : k ≤ k') : OkS b D' k' st :=
  { h with
    cs := fun x hx => (h.cs x hx).mono hD
    l1 := Nat.le_trans h.l1 hk, l2 := Nat.le_trans h.l2 hk, l3 := Nat.le_trans h.l3 hk, l4 := Nat.le_trans h.l4 hk }
theorem okS_nil (b : Be) (D : Int) : OkS b D 0 St.nil := ⟨fun _ h => (by cases h), List.nodup_nil, Nat.le_refl _, Nat.le_refl _, Nat.le_refl _, Nat.le_refl _, fun _ h => (by cases h), fun _ h => (by cases h), fun _ h => (by cases h)⟩
section
variable {b : Be} {D : Int} {k : Nat} {st : St} {n d : Int} {c c' : Ca}
theorem keys_setC : (st.setC n c').causes.map (·.1) = st.causes.map (·.1) := by
  show (setC st.causes n c').map (·.1) = _
  unfold setC
  rw [List.map_map]
  apply List.map_congr_left
  intro x _
  simp only [Function.comp]
  split <;> rfl
theorem okS_set (h : OkS b D k st) (hc : OkC b D n c') : OkS b D k (st.setC n c') :=
  { h with
    cs := fun x hx => by
      obtain ⟨y, hy, rfl⟩ := List.mem_map.mp hx
      by_cases e : y.1 = n
      · simp only [e, if_true]; exact hc
      · simp only [e, if_false]; exact h.cs y hy
    nd := by rw [keys_setC]; exact h.nd
    l1 := by show (setC st.causes n c').length ≤ k; rw [setC, List.length_map]; exact h.l1 }
theorem okS_at (h : OkS b D k st) (e : valG st.causes n = some c) : OkC b D n c := h.cs (n, c) (valG_mem e)
end
theorem okW_t : okW "takes" := by simp [okW]
structure OkR (b : Be) (D : Int) (k : Nat) (x : Str × St) : Prop where
  s : OkS b D k x.2
  w : okW x.1
section
variable {b : Be} {D : Int} {k : Nat} {st : St} {n d : Int} {c c' : Ca}
theorem okR_st (h : OkS b D k st) (hd : D ≤ d) {w : Str} (hw : okW w) : OkR b d (k + 1) (w, st) := ⟨h.mono hd (by omega), hw⟩
theorem charge_r (h : OkS b D k st) (hd : D ≤ d) (h0 : 0 ≤ D) (hB : OkB b) {p e t : Int} (hn : 0 ≤ n ∧ n ≤ 5) (hp : 0 ≤ p ∧ p ≤ 5) (he : 0 ≤ e ∧ e ≤ 3) (ht : 0 ≤ t ∧ t ≤ 3) : OkR b d (k + 1) (doCharge st d n p e t) := by
  unfold doCharge
  split
  · exact okR_st h hd (by simp [okW])
  split
  · exact okR_st h hd (by simp [okW])
  split
  · exact okR_st h hd (by simp [okW])
  rename_i q _ _
  have q : valG st.causes n = none := by simpa using q
  have hm := h.mono hd (Nat.le_succ k)
  have hb := hB.hold
  refine ⟨{ hm with cs := ?_, nd := ?_, l1 := ?_ }, okW_t⟩
  · intro x hx
    rcases List.mem_append.mp hx with hx | hx
    · exact hm.cs x hx
    · simp only [List.mem_singleton] at hx
      subst hx
      exact ⟨⟨Int.le_refl _, by show (0 : Int) ≤ _; omega⟩, rfl, fun x hx => (by cases hx), .nil, fun s hs => (by cases hs), fun hw => (by cases hw), fun hw => (by cases hw), hn, hp, he, ht, ⟨Int.le_refl (-1), by show (-1 : Int) ≤ 60; decide⟩, fun q hq => (by cases hq), ⟨Int.le_refl _, hB.puts.1⟩, ⟨by show 0 ≤ d; omega, Int.le_refl _⟩⟩
  · show ((st.causes ++ [(n, Ca.new d p e t)]).map (·.1)).Nodup
    rw [List.map_append, List.nodup_append]
    refine ⟨h.nd, by simp, ?_⟩
    intro a ha b hb
    obtain ⟨x, hx, rfl⟩ := List.mem_map.mp ha
    simp only [List.map_cons, List.map_nil, List.mem_singleton] at hb
    subst hb
    exact valG_none_iff.mp q x hx
  · show (st.causes ++ [(n, Ca.new d p e t)]).length ≤ k + 1
    have := h.l1
    simp; omega
theorem pardon_r (h : OkS b D k st) (hd : D ≤ d) (h0 : 0 ≤ D) {p e : Int} (hp : 0 ≤ p ∧ p ≤ 5) (he : 0 ≤ e ∧ e ≤ 3) : OkR b d (k + 1) (doPardon b st d p e) := by
  unfold doPardon
  split
  · exact okR_st h hd (by simp [okW])
  have hm := h.mono hd (Nat.le_succ k)
  refine ⟨{ hm with cs := ?_, nd := ?_, l1 := ?_, l2 := ?_, pa := ?_ }, okW_t⟩
  · intro x hx
    obtain ⟨y, hy, rfl⟩ := List.mem_map.mp hx
    show OkC b d y.1 (pardC b.hold d p e y.2)
    unfold pardC
    split
    · exact fin_c (h.cs y hy) hd h0 rfl
    · exact hm.cs y hy
  · show ((st.causes.map fun x => (x.1, pardC b.hold d p e x.2)).map (·.1)).Nodup
    rw [List.map_map]
    exact h.nd
  · show (st.causes.map _).length ≤ k + 1
    rw [List.length_map]; have := h.l1; omega
  · show (st.pardons ++ [(p, e)]).length ≤ k + 1
    have := h.l2
    simp; omega
  · intro x hx
    rcases List.mem_append.mp hx with hx | hx
    · exact h.pa x hx
    · simp only [List.mem_singleton] at hx
      subst hx
      exact ⟨hp, he⟩
theorem withc_r (h : OkS b D k st) (hd : D ≤ d) {f : Ca → Str × St} (hf : ∀ c, OkC b D n c → valG st.causes n = some c → OkR b d (k + 1) (f c)) : OkR b d (k + 1) (withC st n f) := by
  unfold withC
  split
  · exact okR_st h hd (by simp [okW])
  · rename_i c e
    exact hf c (okS_at h e) e
theorem aside_r (h : OkS b D k st) (hd : D ≤ d) (dn : List Pa) (p : Pa) : OkR b d (k + 1) (doAside dn st p c) := by
  unfold doAside
  split
  · exact okR_st h hd (by simp [okW])
  split
  · exact okR_st h hd (by simp [okW])
  have hm := h.mono hd (Nat.le_succ k)
  exact ⟨{ hm with }, okW_t⟩
theorem open_r (h : OkS b D k st) (hd : D ≤ d) {x : Str × St} (hx : c.word.isOpen = true → OkR b d (k + 1) x) : OkR b d (k + 1) (inOpen c st x) := by
  unfold inOpen
  split
  · rename_i e; exact hx e
  · exact okR_st h hd (by simp [okW])
theorem bench_r (h : OkS b D k st) (hd : D ≤ d) {ok : Bool} {x : Str × St} (hx : ok = true → awayB b c d = false → OkR b d (k + 1) x) : OkR b d (k + 1) (byBench b ok c d st x) := by
  unfold byBench
  split
  · split
    · exact okR_st h hd (by simp [okW])
    · rename_i e1 e2; exact hx e1 (by simpa using e2)
  · exact okR_st h hd (by simp [okW])
theorem hold_r (h : OkS b D k st) (hd : D ≤ d) (h0 : 0 ≤ D) (hc : OkC b D n c) (ho : c.word.isOpen = true) : OkR b d (k + 1) (doHold b st d n c) := by
  unfold doHold
  split
  · exact okR_st h hd (by simp [okW])
  split
  · exact okR_st h hd (by simp [okW])
  split
  · exact okR_st h hd (by simp [okW])
  rename_i e _ _
  have e : c.pledger = none := by simpa using e
  have hl := letgo_c hc hd h0
  refine ⟨okS_set (h.mono hd (Nat.le_succ k)) { hl with si := ?_, cl := ?_ }, okW_t⟩
  · intro s hs
    cases hs
    exact ⟨by omega, Int.le_refl _, fun x hx => (hl.pd x hx).2, e⟩
  · intro hw
    rw [show Ca.word { c.letGo b.hold d with since := some d } = c.word from rfl, ho] at hw
    cases hw
theorem pledge_r (h : OkS b D k st) (hd : D ≤ d) (h0 : 0 ≤ D) (hc : OkC b D n c) (ho : c.word.isOpen = true) {q : Int} (hq : 0 ≤ q ∧ q ≤ 5) : OkR b d (k + 1) (doPledge b st d n q c) := by
  unfold doPledge
  split
  · exact okR_st h hd (by simp [okW])
  split
  · exact okR_st h hd (by simp [okW])
  split
  · exact okR_st h hd (by simp [okW])
  have hl := letgo_c hc hd h0
  refine ⟨okS_set (h.mono hd (Nat.le_succ k)) { hl with si := ?_, cl := ?_, n5 := ?_ }, okW_t⟩
  · intro s hs; cases hs
  · intro hw
    rw [show Ca.word { c.letGo b.hold d with pledger := some q } = c.word from rfl, ho] at hw
    cases hw
  · intro q' e; cases e; exact hq
theorem move_r (h : OkS b D k st) (hd : D ≤ d) (hc : OkC b D n c) {t : Int} (ht : 0 ≤ t ∧ t ≤ 3) : OkR b d (k + 1) (doMove st n t c) := by
  unfold doMove
  split
  · exact okR_st h hd (by simp [okW])
  have hm := hc.mono hd
  exact ⟨okS_set (h.mono hd (Nat.le_succ k)) { hm with n3 := ht, n4 := ⟨Int.le_refl (-1), by show (-1 : Int) ≤ 60; decide⟩ }, okW_t⟩
theorem bill_r (h : OkS b D k st) (hd : D ≤ d) (h0 : 0 ≤ D) (hc : OkC b D n c) (ho : c.word.isOpen = true) {g : Int} : OkR b d (k + 1) (doBill b st d n g c) := by
  unfold doBill
  refine ⟨okS_set (h.mono hd (Nat.le_succ k)) ?_, okW_t⟩
  split
  · have hm := hc.mono hd
    exact { hm with cl := fun hw => (by cases hw), jd := fun hw => (by cases hw) }
  · exact fin_c hc hd h0 rfl
theorem miss_r (h : OkS b D k st) (hd : D ≤ d) (h0 : 0 ≤ D) (hd6 : d ≤ 60) (hc : OkC b D n c) (ho : c.word.isOpen = true) : OkR b d (k + 1) (doMiss b st d n c) := by
  unfold doMiss
  split
  · exact okR_st h hd (by simp [okW])
  · rename_i q e
    have hm := hc.mono hd
    have hS := h.mono hd (Nat.le_succ k)
    have hn : c.since = none := by
      cases es : c.since with
      | none => rfl
      | some s => have := (hc.si s es).2.2.2; rw [e] at this; cases this
    have hl4 := h.l4
    refine ⟨okS_set (st := { st with lost := st.lost ++ [(d, n, q)] }) { hS with l4 := ?_, lo := ?_ } { hm with si := ?_, cl := ?_, n5 := ?_ }, okW_t⟩
    · show (st.lost ++ [(d, n, q)]).length ≤ k + 1
      simp; omega
    · intro x hx
      rcases List.mem_append.mp hx with hx | hx
      · exact h.lo x hx
      · simp only [List.mem_singleton] at hx
        subst hx
        exact ⟨⟨by omega, hd6⟩, hc.n0, hc.n5 q e⟩
    · intro s hs
      simp only at hs
      split at hs
      · cases hs
        exact ⟨by omega, Int.le_refl _, fun x hx => (hm.pd x hx).2, rfl⟩
      · rw [hn] at hs; cases hs
    · intro hw
      simp only at hw
      rw [ho] at hw; cases hw
    · intro q' e; cases e
theorem last_le (hB : OkB b) : -1 ≤ lastOn b d ∧ lastOn b d ≤ 60 := by
  unfold lastOn
  split
  · exact ⟨by decide, by decide⟩
  · rename_i t e
    have := hB.ts t (List.mem_of_find?_eq_some e)
    omega
theorem over_r (h : OkS b D k st) (hd : D ≤ d) (hB : OkB b) (hc : OkC b D n c) : OkR b d (k + 1) (doOver b st d n c) := by
  unfold doOver
  split
  · exact okR_st h hd (by simp [okW])
  split
  · exact okR_st h hd (by simp [okW])
  have hm := hc.mono hd
  have := hc.n6
  exact ⟨okS_set (h.mono hd (Nat.le_succ k)) { hm with n4 := last_le hB, n6 := ⟨by show 0 ≤ c.puts + 1; omega, by show c.puts + 1 ≤ _; omega⟩ }, okW_t⟩
theorem judge_r (h : OkS b D k st) (hd : D ≤ d) (h0 : 0 ≤ D) (hc : OkC b D n c) {g : Int} : OkR b d (k + 1) (doJudge b st d n g c) := by
  unfold doJudge
  split
  · exact okR_st h hd (by simp [okW])
  split
  · exact okR_st h hd (by simp [okW])
  have hf := fin_c hc hd h0 (w := .thrown) rfl
  have hv : (verd g).isOpen = false := by unfold verd; split <;> rfl
  exact ⟨okS_set (h.mono hd (Nat.le_succ k)) { hf with jd := fun _ => ⟨d, g, rfl, Int.le_refl _⟩, cl := fun _ => ⟨rfl, rfl⟩ }, okW_t⟩
theorem rdP_r (h : OkS b D k st) (hB : OkB b) (dn : List Pa) {p : Pa} (hp : okP p) (hd : D ≤ p.day) (h0 : 0 ≤ D) : OkR b p.day (k + 1) (rdP b dn st p) := by
  have o1 : ∀ c : Ca, (c.word == Wd.charged) = true → c.word.isOpen = true := fun c e => by rw [beq_iff_eq.mp e]; rfl
  cases p with
  | charge d n q e t => exact charge_r h hd h0 hB hp.2.1 hp.2.2.1 hp.2.2.2.1 hp.2.2.2.2
  | pardon d q e => exact pardon_r h hd h0 hp.2.1 hp.2.2
  | aside d n => exact withc_r h hd fun c hc e => aside_r h hd dn _
  | hold d n => exact withc_r h hd fun c hc e => open_r h hd fun ho => hold_r h hd h0 hc ho
  | pledge d n q => exact withc_r h hd fun c hc e => open_r h hd fun ho => pledge_r h hd h0 hc ho hp.2.2
  | move d n t => exact withc_r h hd fun c hc e => open_r h hd fun ho => move_r h hd hc hp.2.2
  | bill d n g => exact withc_r h hd fun c hc e => bench_r h hd fun ho ha => bill_r h hd h0 hc (o1 c ho)
  | miss d n => exact withc_r h hd fun c hc e => bench_r h hd fun ho ha => miss_r h hd h0 hp.1.2 hc ho
  | over d n => exact withc_r h hd fun c hc e => bench_r h hd fun ho ha => over_r h hd hB hc
  | judge d n g => exact withc_r h hd fun c hc e => bench_r h hd fun ho ha => judge_r h hd h0 hc
theorem rd_r (h : OkS b D k st) (hB : OkB b) (sk : List (Pa × Pa)) (dn : List Pa) {p : Pa} (hp : okP p) (hd : D ≤ p.day) (h0 : 0 ≤ D) : OkR b p.day (k + 1) (rd b sk dn st p) := by
  unfold rd
  split
  · exact okR_st h hd (by simp [okW])
  · exact rdP_r h hB dn hp hd h0
end
end Sp

/-! SpL: a pass, the whole reading: what stays true. -/
namespace Sp
open PySem L2 Z
section
variable {b : Be} {sk : List (Pa × Pa)} {dn : List Pa} {D : Int} {k : Nat} {st : St} {p : Pa}
theorem withc_words {n : Int} {f : Ca → Str × St} (hf : ∀ c, (f c).2.words = st.words) : (withC st n f).2.words = st.words := by
  unfold withC; split
  · rfl
  · exact hf _
theorem open_words {c : Ca} {x : Str × St} (hf : x.2.words = st.words) : (inOpen c st x).2.words = st.words := by
  unfold inOpen; split
  · exact hf
  · rfl
theorem bench_words {ok : Bool} {c : Ca} {d : Int} {x : Str × St} (hf : x.2.words = st.words) : (byBench b ok c d st x).2.words = st.words := by
  unfold byBench; split
  · split
    · rfl
    · exact hf
  · rfl
theorem rd_words : (rd b sk dn st p).2.words = st.words := by
  unfold rd
  split
  · rfl
  cases p with
  | charge d n q e t => show (doCharge st d n q e t).2.words = _; unfold doCharge; repeat (first | rfl | split)
  | pardon d q e => show (doPardon b st d q e).2.words = _; unfold doPardon; repeat (first | rfl | split)
  | aside d n => exact withc_words fun c => by unfold doAside; repeat (first | rfl | split)
  | hold d n => exact withc_words fun c => open_words (by unfold doHold; repeat (first | rfl | split))
  | pledge d n q => exact withc_words fun c => open_words (by unfold doPledge; repeat (first | rfl | split))
  | move d n t => exact withc_words fun c => open_words (by unfold doMove; repeat (first | rfl | split))
  | bill d n g => exact withc_words fun c => bench_words (by unfold doBill; repeat (first | rfl | split))
  | miss d n => exact withc_words fun c => bench_words (by unfold doMiss; repeat (first | rfl | split))
  | over d n => exact withc_words fun c => bench_words (by unfold doOver; repeat (first | rfl | split))
  | judge d n g => exact withc_words fun c => bench_words (by unfold doJudge; repeat (first | rfl | split))
theorem withc_strike {n : Int} {f : Ca → Str × St} (hf : ∀ c, (f c).2.strike = st.strike) : (withC st n f).2.strike = st.strike := by
  unfold withC; split
  · rfl
  · exact hf _
theorem open_strike {c : Ca} {x : Str × St} (hf : x.2.strike = st.strike) : (inOpen c st x).2.strike = st.strike := by
  unfold inOpen; split
  · exact hf
  · rfl
theorem bench_strike {ok : Bool} {c : Ca} {d : Int} {x : Str × St} (hf : x.2.strike = st.strike) : (byBench b ok c d st x).2.strike = st.strike := by
  unfold byBench; split
  · split
    · rfl
    · exact hf
  · rfl
/-- an aside that strikes names a judge paper -/
theorem rd_strike (h : OkS b D k st) : (rd b sk dn st p).2.strike = st.strike ∨ (p ∉ dn ∧ ∃ d g n d', (rd b sk dn st p).2.strike = some (p, some (.judge d n g)) ∧ p = .aside d' n ∧ d ≤ D) := by
  unfold rd
  split
  · exact .inl rfl
  cases p with
  | charge d n q e t => left; show (doCharge st d n q e t).2.strike = _; unfold doCharge; repeat (first | rfl | split)
  | pardon d q e => left; show (doPardon b st d q e).2.strike = _; unfold doPardon; repeat (first | rfl | split)
  | aside d n =>
    show (withC st n fun c => doAside dn st (.aside d n) c).2.strike = _ ∨ _
    cases e : valG st.causes n with
    | none => left; simp [withC, e]
    | some c =>
      have hc := okS_at h e
      have e1 : (withC st n fun c => doAside dn st (.aside d n) c) = doAside dn st (.aside d n) c := by simp [withC, e]
      have e2 : rdP b dn st (.aside d n) = doAside dn st (.aside d n) c := e1
      rw [e1]
      unfold doAside
      split
      · exact .inl rfl
      · split
        · exact .inl rfl
        · rename_i q1 q2
          obtain ⟨d0, g, e3, e4⟩ := hc.jd (by simpa using q2)
          refine .inr ⟨q1, d0, g, n, d, ?_, rfl, e4⟩
          rw [e2]
          unfold doAside
          rw [if_neg q1, if_neg q2, e3]
  | hold d n => exact .inl (withc_strike fun c => open_strike (by unfold doHold; repeat (first | rfl | split)))
  | pledge d n q => exact .inl (withc_strike fun c => open_strike (by unfold doPledge; repeat (first | rfl | split)))
  | move d n t => exact .inl (withc_strike fun c => open_strike (by unfold doMove; repeat (first | rfl | split)))
  | bill d n g => exact .inl (withc_strike fun c => bench_strike (by unfold doBill; repeat (first | rfl | split)))
  | miss d n => exact .inl (withc_strike fun c => bench_strike (by unfold doMiss; repeat (first | rfl | split)))
  | over d n => exact .inl (withc_strike fun c => bench_strike (by unfold doOver; repeat (first | rfl | split)))
  | judge d n g => exact .inl (withc_strike fun c => bench_strike (by unfold doJudge; repeat (first | rfl | split)))
/-- the strike of a state, if there is one -/
def OkK (dn ps : List Pa) (st : St) : Prop := ∀ x, st.strike = some x → ∃ d g n d', x = (.aside d' n, some (.judge d n g)) ∧ .aside d' n ∉ dn ∧ .aside d' n ∈ ps
theorem step_okS (h : OkS b D k st) (hB : OkB b) (hp : okP p) (hd : D ≤ p.day) (h0 : 0 ≤ D) : OkS b p.day (k + 1) (step b sk dn st p) := by
  unfold step
  split
  · exact h.mono hd (by omega)
  · have r := rd_r h hB sk dn hp hd h0
    have hw := rd_words (b := b) (sk := sk) (dn := dn) (st := st) (p := p)
    exact { r.s with
      l3 := by
        show (_ ++ [_]).length ≤ k + 1
        rw [hw]; have := h.l3; simp; omega
      wo := fun x hx => by
        rcases List.mem_append.mp hx with hx | hx
        · rw [hw] at hx; exact h.wo x hx
        · simp only [List.mem_singleton] at hx; subst hx; exact r.w }
theorem step_okK {ps : List Pa} (h : OkS b D k st) (hK : OkK dn ps st) (hm : p ∈ ps) : OkK dn ps (step b sk dn st p) := by
  unfold step
  split
  · exact hK
  · rename_i hs
    intro x hx
    have hx : (rd b sk dn st p).2.strike = some x := hx
    rcases rd_strike (sk := sk) (dn := dn) (p := p) h with e | ⟨h1, d, g, n, d', e, rfl, _⟩
    · rw [e] at hx
      rw [hx] at hs
      simp at hs
    · rw [e] at hx
      cases hx
      exact ⟨d, g, n, d', rfl, h1, hm⟩
end
/-- a roll in order -/
structure Rl (ps : List Pa) : Prop where
  ok : ∀ p ∈ ps, okP p
  so : ps.Pairwise fun a b => a.day ≤ b.day
  ln : ps.length ≤ 24
theorem Rl.sub {ps qs : List Pa} (h : Rl ps) (s : qs.Sublist ps) : Rl qs := ⟨fun p hp => h.ok p (s.subset hp), h.so.sublist s, Nat.le_trans s.length_le h.ln⟩
theorem fold_ok {b : Be} {sk : List (Pa × Pa)} {dn ps : List Pa} (hB : OkB b) : ∀ (qs : List Pa) (D : Int) (k : Nat) (st : St), (∀ p ∈ qs, okP p ∧ p ∈ ps ∧ D ≤ p.day) → qs.Pairwise (fun a b => a.day ≤ b.day) → 0 ≤ D → D ≤ 60 → OkS b D k st → OkK dn ps st → OkS b 60 (k + qs.length) (qs.foldl (step b sk dn) st) ∧ OkK dn ps (qs.foldl (step b sk dn) st)
  | [], D, k, st, _, _, _, h6, h, hK => ⟨h.mono h6 (Nat.le_refl _), hK⟩
  | p :: qs, D, k, st, hq, hs, h0, h6, h, hK => by
    obtain ⟨h1, h2, h3⟩ := hq p (by simp)
    have hd := okP_day h1
    have hs' := List.pairwise_cons.mp hs
    have r := fold_ok (sk := sk) hB qs p.day (k + 1) (step b sk dn st p) (fun q hq' => ⟨(hq q (by simp [hq'])).1, (hq q (by simp [hq'])).2.1, hs'.1 q hq'⟩) hs'.2 hd.1 hd.2 (step_okS h hB h1 h3 h0) (step_okK h hK h2)
    rw [List.foldl_cons, List.length_cons]
    rw [show k + (qs.length + 1) = k + 1 + qs.length by omega]
    exact r
theorem pass_ok {b : Be} {sk : List (Pa × Pa)} {dn ps : List Pa} (hB : OkB b) (hR : Rl ps) : OkS b 60 ps.length (pass b sk dn ps) ∧ OkK dn ps (pass b sk dn ps) := by
  have r := fold_ok (sk := sk) (dn := dn) (ps := ps) hB ps 0 0 St.nil (fun p hp => ⟨hR.ok p hp, hp, (okP_day (hR.ok p hp)).1⟩) hR.so (Int.le_refl _) (by decide) (okS_nil b 0) (fun x hx => by cases hx)
  rw [Nat.zero_add] at r
  exact r
theorem asides_lt {ps dn : List Pa} {p : Pa} (h : p ∈ ps) (h2 : p ∉ dn) : asides ps (dn ++ [p]) < asides ps dn := by
  unfold asides
  have : ∀ qs : List Pa, (qs.filter fun q => decide (q ∉ dn ++ [p])).length + (if p ∈ qs then 1 else 0) ≤ (qs.filter fun q => decide (q ∉ dn)).length := by
    intro qs
    induction qs with
    | nil => simp
    | cons q qs ih =>
      by_cases e : q = p
      · subst e
        have e1 : decide (q ∉ dn ++ [q]) = false := by simp
        have e2 : decide (q ∉ dn) = true := by simpa using h2
        rw [List.filter_cons, List.filter_cons, e1, e2]
        simp only [if_true, List.length_cons, List.mem_cons, true_or, Bool.false_eq_true, if_false]
        split at ih <;> omega
      · have e1 : decide (q ∉ dn ++ [p]) = decide (q ∉ dn) := by simp [e]
        have e2 : (p ∈ q :: qs) = (p ∈ qs) := by simp [Ne.symm e]
        rw [List.filter_cons, List.filter_cons, e1]
        simp only [e2]
        cases decide (q ∉ dn)
        · simpa using ih
        · simp only [if_true, List.length_cons]; omega
  have := this ps
  rw [if_pos h] at this
  omega
end Sp

/-! SpC: what a cause's methods do to its cell. -/
namespace Sp
open PySem L2 Z
section
variable {S : Sto} {l : Nat}
theorem setset {c1 c2 : C} : (S.set l c1).set l c2 = S.set l c2 := List.set_set ..
theorem at_set {c1 : C} {c0 : C} (h : S[l]? = some c0) : (S.set l c1)[l]? = some c1 := by
  obtain ⟨hl, _⟩ := List.getElem?_eq_some_iff.mp h
  simp [hl]
end
variable [Rz]
def optD : Option Int → Z.D
  | none => .non
  | some i => .int i
def byD : Option Pa → Z.D
  | none => .non
  | some p => p.D
def Ca.fs (c : Ca) : List (Str × Z.D) := [("person", .int c.person), ("deed", .int c.deed), ("town", .int c.town), ("word", .str c.word.s), ("since", optD c.since), ("spent", .int c.spent), ("past", .lst (c.past.map .int)), ("pledger", optD c.pledger), ("puts", .int c.puts), ("until", .int c.till), ("by", byD c.byp)]
def Ca.cell (c : Ca) : C := .ins "Cause" c.fs
theorem isN_opt (b : Bool) (o : Option Int) (S : Sto) : dIsN b (optD o) .non S = .ok (.bl (if b then o.isSome else !o.isSome)) S := by
  cases o <;> cases b <;> rfl
section
variable {c : Ca} {S : Sto} {l : Nat}
theorem lk_person : c.fs.lookup ("person" : Str) = some (.int c.person) := by simp [Ca.fs, List.lookup, ofString_beq]
theorem lk_deed : c.fs.lookup ("deed" : Str) = some (.int c.deed) := by simp [Ca.fs, List.lookup, ofString_beq]
theorem lk_town : c.fs.lookup ("town" : Str) = some (.int c.town) := by simp [Ca.fs, List.lookup, ofString_beq]
theorem lk_word : c.fs.lookup ("word" : Str) = some (.str c.word.s) := by simp [Ca.fs, List.lookup, ofString_beq]
theorem lk_since : c.fs.lookup ("since" : Str) = some (optD c.since) := by simp [Ca.fs, List.lookup, ofString_beq]
theorem lk_spent : c.fs.lookup ("spent" : Str) = some (.int c.spent) := by simp [Ca.fs, List.lookup, ofString_beq]
theorem lk_past : c.fs.lookup ("past" : Str) = some (.lst (c.past.map .int)) := by simp [Ca.fs, List.lookup, ofString_beq]
theorem lk_pledger : c.fs.lookup ("pledger" : Str) = some (optD c.pledger) := by simp [Ca.fs, List.lookup, ofString_beq]
theorem lk_puts : c.fs.lookup ("puts" : Str) = some (.int c.puts) := by simp [Ca.fs, List.lookup, ofString_beq]
theorem lk_until : c.fs.lookup ("until" : Str) = some (.int c.till) := by simp [Ca.fs, List.lookup, ofString_beq]
theorem lk_by : c.fs.lookup ("by" : Str) = some (byD c.byp) := by simp [Ca.fs, List.lookup, ofString_beq]
theorem lk_used : c.fs.lookup ("used" : Str) = none := by simp [Ca.fs, List.lookup, ofString_beq]
theorem lk_held : c.fs.lookup ("is_held" : Str) = none := by simp [Ca.fs, List.lookup, ofString_beq]
theorem lk_daysto : c.fs.lookup ("days_to" : Str) = none := by simp [Ca.fs, List.lookup, ofString_beq]
theorem lk_letgo : c.fs.lookup ("let_go" : Str) = none := by simp [Ca.fs, List.lookup, ofString_beq]
theorem lk_end : c.fs.lookup ("end" : Str) = none := by simp [Ca.fs, List.lookup, ofString_beq]
theorem fs_len : c.fs.length < 1000 := by simp [Ca.fs]
theorem put_town (i : Int) : putD ("town" : Str) (.int i) c.fs = Ca.fs { c with town := i } := by simp [Ca.fs, putD, ofString_inj]
theorem put_word (w : Wd) : putD ("word" : Str) (.str w.s) c.fs = Ca.fs { c with word := w } := by simp [Ca.fs, putD, ofString_inj]
theorem put_since0 : putD ("since" : Str) .non c.fs = Ca.fs { c with since := none } := by simp [Ca.fs, putD, ofString_inj, optD]
theorem put_since (i : Int) : putD ("since" : Str) (.int i) c.fs = Ca.fs { c with since := some i } := by simp [Ca.fs, putD, ofString_inj, optD]
theorem put_spent (i : Int) : putD ("spent" : Str) (.int i) c.fs = Ca.fs { c with spent := i } := by simp [Ca.fs, putD, ofString_inj]
theorem put_past (ns : List Int) : putD ("past" : Str) (.lst (ns.map .int)) c.fs = Ca.fs { c with past := ns } := by simp [Ca.fs, putD, ofString_inj]
theorem put_pledger0 : putD ("pledger" : Str) .non c.fs = Ca.fs { c with pledger := none } := by simp [Ca.fs, putD, ofString_inj, optD]
theorem put_pledger (i : Int) : putD ("pledger" : Str) (.int i) c.fs = Ca.fs { c with pledger := some i } := by simp [Ca.fs, putD, ofString_inj, optD]
theorem put_puts (i : Int) : putD ("puts" : Str) (.int i) c.fs = Ca.fs { c with puts := i } := by simp [Ca.fs, putD, ofString_inj]
theorem put_until (i : Int) : putD ("until" : Str) (.int i) c.fs = Ca.fs { c with till := i } := by simp [Ca.fs, putD, ofString_inj]
theorem put_by (p : Pa) : putD ("by" : Str) p.D c.fs = Ca.fs { c with byp := some p } := by simp [Ca.fs, putD, ofString_inj, byD]
theorem used_ok (h : S[l]? = some c.cell) (most day : Int) : Pg.m_Cause_used [.loc l, .int most, .int day] S = .ok (.int (c.used most day)) S := by
  have h2 : S[l]? = some (.ins "Cause" c.fs) := h
  refine wp_eq ?_
  unfold Pg.m_Cause_used
  simp [h2, lk_since, lk_spent, isN_opt]
  cases e : c.since with
  | none => simp [Ca.used, e]
  | some s =>
    simp [Ca.used, e, optD]
    rw [Int.min_def]
    split <;> split <;> omega
theorem held_ok (h : S[l]? = some c.cell) (most day : Int) : Pg.m_Cause_is_held [.loc l, .int most, .int day] S = .ok (.bl (c.isHeld most day)) S := by
  have h2 : S[l]? = some (.ins "Cause" c.fs) := h
  refine wp_eq ?_
  unfold Pg.m_Cause_is_held
  simp [h2, lk_since, lk_used, isN_opt, used_ok h, Ca.isHeld]
  cases c.since <;> simp
/-- small enough for every list made of it -/
structure Sm (c : Ca) : Prop where
  p : c.past.length ≤ 1000
  s : ∀ s, c.since = some s → -1000 ≤ s ∧ s ≤ 1000
  u : -1000 ≤ c.spent ∧ c.spent ≤ 1000
theorem used_le {most day : Int} (hc : Sm c) (hm : -1000 ≤ most ∧ most ≤ 1000) (hd : -1000 ≤ day ∧ day ≤ 1000) : -3000 ≤ c.used most day ∧ c.used most day ≤ 1000 := by
  have := hc.u
  unfold Ca.used
  split
  · omega
  · rename_i s e
    have := hc.s s e
    omega
theorem rg_map (a b : Int) : (rgI a b).length = (b - a).toNat := by simp [rgI]
theorem daysto_ok (h : S[l]? = some c.cell) (hc : Sm c) {most day : Int} (hm : -1000 ≤ most ∧ most ≤ 1000) (hd : -999 ≤ day ∧ day ≤ 999) : Pg.m_Cause_days_to [.loc l, .int most, .int day] S = .ok (.lst ((c.daysTo most day).map .int)) S := by
  have h2 : S[l]? = some (.ins "Cause" c.fs) := h
  have hp := hc.p
  have hu := hc.u
  have hs := hc.s
  refine wp_eq ?_
  unfold Pg.m_Cause_days_to
  simp [h2, lk_since, lk_past, lk_spent, lk_used, isN_opt, used_ok h]
  have hul := used_le hc hm (show -1000 ≤ day + 1 ∧ day + 1 ≤ 1000 by omega)
  cases e : c.since with
  | none => simp [Ca.daysTo, e, dList, seqR, listR]
  | some s =>
    have hs := hs s e
    simp [Ca.daysTo, e, optD, rg_map]
    generalize c.used most (day + 1) = u at *
    have : sizeLine = 16777216 := rfl
    omega
theorem letgo_ok (h : S[l]? = some c.cell) (hc : Sm c) {most day : Int} (hm : -1000 ≤ most ∧ most ≤ 1000) (hd : -900 ≤ day ∧ day ≤ 900) : Pg.m_Cause_let_go [.loc l, .int most, .int day] S = .ok .non (S.set l (c.letGo most day).cell) := by
  have h2 : S[l]? = some (.ins "Cause" c.fs) := h
  have d1 := daysto_ok h hc hm (day := day - 1) (by omega)
  have h3 : (S.set l (.ins "Cause" (Ca.fs { c with past := c.daysTo most (day - 1) })))[l]? = some (Ca.cell { c with past := c.daysTo most (day - 1) }) := at_set h
  have h3' : (S.set l (.ins "Cause" (Ca.fs { c with past := c.daysTo most (day - 1) })))[l]? = some (.ins "Cause" (Ca.fs { c with past := c.daysTo most (day - 1) })) := h3
  have d2 := used_ok h3 most day
  refine wp_eq ?_
  unfold Pg.m_Cause_let_go
  simp [h2, d1, lk_daysto, fs_len, put_past, h3', lk_used, d2, put_spent, setset, at_set h, put_since0]
  rfl
theorem end_ok (h : S[l]? = some c.cell) (hc : Sm c) {most day : Int} (hm : -1000 ≤ most ∧ most ≤ 1000) (hd : -900 ≤ day ∧ day ≤ 900) (w : Wd) : Pg.m_Cause_end [.loc l, .int most, .int day, .str w.s] S = .ok .non (S.set l (c.fin most day w).cell) := by
  have h2 : S[l]? = some (.ins "Cause" c.fs) := h
  have d1 := letgo_ok h hc hm hd
  have h3 : (S.set l (c.letGo most day).cell)[l]? = some (.ins "Cause" (c.letGo most day).fs) := at_set h
  refine wp_eq ?_
  unfold Pg.m_Cause_end
  simp [h2, d1, lk_letgo, fs_len, h3, put_pledger0, setset, at_set h, put_word]
  rfl
theorem init_ok (h : S[l]? = some (.ins "Cause" [])) (d p e t : Int) : Pg.m_Cause_init [.loc l, .int p, .int e, .int t] S = .ok .non (S.set l (Ca.new d p e t).cell) := by
  refine wp_eq ?_
  unfold Pg.m_Cause_init
  simp [h, at_set h, putD, ofString_inj, setset]
  rfl
end
end Sp

/-! SpD: loops over plain lists; the store of a reading. -/
namespace Sp
open PySem L2 Z
/-! ### loops over a plain list -/
theorem wpS_imp {o : RS} {N N' : Tau → Sto → Prop} {T T' : Z.D → Sto → Prop} (h : wpS o N T) (k : ∀ τ S, N τ S → N' τ S) (k2 : ∀ d S, T d S → T' d S) : wpS o N' T' := by
  cases o with
  | nx τ S => exact k τ S h
  | rt d S => exact k2 d S h
  | bk τ S => exact h
  | ct τ S => exact h
  | ex τ n fs S => exact h
  | bad => exact h
section
variable {α : Type} {f : α → Z.D} {ks : List (Nat × C)} {g : Tgt} {body : MS} {N : Tau → Sto → Prop} {T : Z.D → Sto → Prop}
theorem for_src (Inv : List α → Tau → Sto → Prop) (hk : ∀ as τ S, Inv as τ S → keepOk ks S) (step : ∀ a as τ S, Inv (a :: as) τ S → ∃ τ1, bindT g (f a) τ = some τ1 ∧ wpS (body τ1 S) (fun τ2 S2 => Inv as τ2 S2) T)
    (fin : ∀ τ S, Inv [] τ S → N τ S) (as : List α) (τ : Tau) (S : Sto) (h : Inv as τ S) : wpS (forL ks g body (as.map f) τ S) N T := by
  refine for_wpK (fun ds τ S => ∃ as, ds = as.map f ∧ Inv as τ S) ?_ ?_ ?_ _ _ _ ⟨as, rfl, h⟩
  · rintro _ τ S ⟨as, _, h⟩; exact hk _ _ _ h
  · rintro d ds τ S ⟨as, e, h⟩
    cases as with
    | nil => simp at e
    | cons a as =>
      simp only [List.map_cons, List.cons.injEq] at e
      obtain ⟨rfl, rfl⟩ := e
      obtain ⟨τ1, h1, h2⟩ := step a as τ S h
      exact ⟨τ1, h1, wpS_imp h2 (fun τ2 S2 h3 => ⟨as, rfl, h3⟩) fun _ _ h3 => h3⟩
  · rintro τ S ⟨as, e, h⟩
    have : as = [] := by cases as with | nil => rfl | cons _ _ => simp at e
    subst this
    exact fin τ S h
theorem keep_nil (S : Sto) : keepOk [] S := keepB_iff.mp (keepB_nil S)
/-- a loop that looks for the first thing -/
theorem for_find {S : Sto} (hk : keepOk ks S) (t : α → Bool) (v : α → Z.D) (P : Tau → Prop) (as : List α) (τ : Tau) (hP : P τ)
    (step : ∀ a ∈ as, ∀ τ, P τ → ∃ τ1, bindT g (f a) τ = some τ1 ∧ wpS (body τ1 S) (fun τ2 S2 => t a = false ∧ P τ2 ∧ S2 = S) (fun d S2 => t a = true ∧ d = v a ∧ S2 = S))
    (h0 : as.find? t = none → ∀ τ, P τ → N τ S) (h1 : ∀ a, as.find? t = some a → T (v a) S) : wpS (forL ks g body (as.map f) τ S) N T := by
  refine for_src (fun bs τ S' => P τ ∧ S' = S ∧ (∀ b ∈ bs, b ∈ as) ∧ bs.find? t = as.find? t) ?_ ?_ ?_ as τ S ⟨hP, rfl, fun _ h => h, rfl⟩
  · rintro _ _ _ ⟨_, rfl, _⟩; exact hk
  · rintro a bs τ S' ⟨p, rfl, hm, he⟩
    obtain ⟨τ1, e1, w⟩ := step a (hm a (by simp)) τ p
    refine ⟨τ1, e1, wpS_imp w ?_ ?_⟩
    · rintro τ2 S2 ⟨ht, hp, rfl⟩
      refine ⟨hp, rfl, fun b hb => hm b (by simp [hb]), ?_⟩
      rw [← he, List.find?_cons, ht]
    · rintro d S2 ⟨ht, rfl, rfl⟩
      exact h1 a (by rw [← he, List.find?_cons, ht])
  · rintro τ S' ⟨p, rfl, _, he⟩
    exact h0 he.symm τ p
/-- a comprehension over a plain list that changes nothing -/
theorem lc_src {S : Sto} {τ : Tau} {vs : List Nat} {tm : MT} {e : ME} (hk : keepOk ks S) (t : α → Bool) (v : α → Z.D) : ∀ (as : List α), (∀ a ∈ as, ∃ τ1, bindT g (f a) (wipeT τ vs) = some τ1 ∧ tm τ1 S = .ok (t a) S ∧ (t a = true → e τ1 S = .ok (v a) S)) → lcL ks g vs tm e (as.map f) τ S = .ok ((as.filter t).map v) S
  | [], _ => by
    unfold lcL
    rw [List.map_nil]
    simp only [keepB_iff.mpr hk, if_true]
    rfl
  | a :: as, step => by
    obtain ⟨τ1, e1, w1, w2⟩ := step a (by simp)
    have rest := lc_src hk t v as (fun d hd => step d (by simp [hd]))
    rw [List.map_cons]
    unfold lcL
    simp only [keepB_iff.mpr hk, if_true]
    rw [e1]
    show (noEx (tm τ1 S)).bind _ = _
    rw [w1, List.filter_cons]
    cases q : t a
    · simp [rest]
    · simp [w2 q, rest]
end
/-- the first n things stand as ahead -/
def Fr (n : Nat) (S S' : Sto) : Prop := S.length ≤ S'.length ∧ ∀ i, i < n → S'[i]? = S[i]?
theorem Fr.refl (n : Nat) (S : Sto) : Fr n S S := ⟨Nat.le_refl _, fun _ _ => rfl⟩
theorem Fr.trans {n : Nat} {S S1 S2 : Sto} (h : Fr n S S1) (h2 : Fr n S1 S2) : Fr n S S2 := ⟨Nat.le_trans h.1 h2.1, fun i hi => (h2.2 i hi).trans (h.2 i hi)⟩
theorem Fr.mono {n m : Nat} {S S1 : Sto} (h : Fr n S S1) (hm : m ≤ n) : Fr m S S1 := ⟨h.1, fun i hi => h.2 i (by omega)⟩
theorem Fr.set {n l : Nat} {S : Sto} {c : C} (hl : n ≤ l) : Fr n S (S.set l c) := ⟨by simp, fun i hi => by rw [List.getElem?_set_ne (by omega)]⟩
theorem Fr.app {n : Nat} {S T : Sto} (hl : n ≤ S.length) : Fr n S (S ++ T) := ⟨by simp, fun i hi => List.getElem?_append_left (by omega)⟩
theorem lt_of_at {S : Sto} {l : Nat} {c : C} (h : S[l]? = some c) : l < S.length := (List.getElem?_eq_some_iff.mp h).1
theorem Fr.at {n l : Nat} {S S' : Sto} {c : C} (h : Fr n S S') (hl : l < n) (e : S[l]? = some c) : S'[l]? = some c := (h.2 l hl).trans e
theorem set_ne {l k : Nat} {S : Sto} {c : C} {o : Option C} (h : S[l]? = o) (hk : k ≠ l) : (S.set k c)[l]? = o := by rw [List.getElem?_set_ne hk]; exact h
theorem app_at {l : Nat} {S T : Sto} {c : C} (h : S[l]? = some c) : (S ++ T)[l]? = some c := by
  rw [List.getElem?_append_left (lt_of_at h)]; exact h
theorem app_new {S T : Sto} {c : C} : (S ++ c :: T)[S.length]? = some c := by simp
/-! ### the store of a reading -/
def optStr : Option (Pa × Option Pa) → Z.D
  | none => .non
  | some (p, j) => .tup [p.D, byD j]
def rfs (r n0 : Nat) (b : Be) (x : Option (Pa × Option Pa)) : List (Str × Z.D) := [("bench", b.D), ("struck", .loc n0), ("done", .loc (n0 + 1)), ("causes", .loc (r + 1)), ("pardons", .loc (r + 2)), ("words", .loc (r + 3)), ("lost", .loc (r + 4)), ("strike", optStr x)]
def caD (ℓ : Int → Nat) (cs : List (Int × Ca)) : List (Key × Z.D) := cs.map fun x => (.inl x.1, .loc (ℓ x.1))
def pairI (x : Int × Int) : Z.D := .tup [.int x.1, .int x.2]
def tripI (x : Int × Int × Int) : Z.D := .tup [.int x.1, .int x.2.1, .int x.2.2]
structure Rep (S : Sto) (r n0 : Nat) (ℓ : Int → Nat) (b : Be) (sk : List (Pa × Pa)) (dn : List Pa) (st : St) : Prop where
  me : S[r]? = some (.ins "Reading" (rfs r n0 b st.strike))
  lt : n0 + 1 < r
  sk : S[n0]? = some (.dT false (struckD sk))
  dn : S[n0 + 1]? = some (.lst (dn.map Pa.D))
  ca : S[r + 1]? = some (.dK false (caD ℓ st.causes))
  pa : S[r + 2]? = some (.lst (st.pardons.map pairI))
  wo : S[r + 3]? = some (.lst (st.words.map .str))
  lo : S[r + 4]? = some (.lst (st.lost.map tripI))
  ce : ∀ x ∈ st.causes, S[ℓ x.1]? = some x.2.cell ∧ r + 4 < ℓ x.1
  inj : ∀ x ∈ st.causes, ∀ y ∈ st.causes, ℓ x.1 = ℓ y.1 → x.1 = y.1
  nd : (st.causes.map (·.1)).Nodup
variable {S : Sto} {r n0 : Nat} {ℓ : Int → Nat} {b : Be} {sk : List (Pa × Pa)} {dn : List Pa} {st : St}
theorem valG_caD (n : Int) : ∀ cs : List (Int × Ca), valG (caD ℓ cs) (.inl n) = (valG cs n).map fun _ => .loc (ℓ n)
  | [] => rfl
  | x :: cs => by
    show valG ((_, _) :: caD ℓ cs) _ = _
    rw [valG_cons, valG_cons, valG_caD n cs]
    by_cases h : x.1 = n
    · subst h; simp
    · have : ¬ (Sum.inl x.1 : Key) = Sum.inl n := fun e => h (by cases e; rfl)
      simp [h, this]
theorem caD_set (n : Int) (c : Ca) (cs : List (Int × Ca)) : caD ℓ (setC cs n c) = caD ℓ cs := by
  unfold caD setC
  rw [List.map_map]
  apply List.map_congr_left
  intro x _
  simp only [Function.comp]
  split <;> rfl
theorem caD_map (f : Int × Ca → Ca) (cs : List (Int × Ca)) : caD ℓ (cs.map fun x => (x.1, f x)) = caD ℓ cs := by
  unfold caD
  rw [List.map_map]
  rfl
theorem keys_set (n : Int) (c : Ca) (cs : List (Int × Ca)) : (setC cs n c).map (·.1) = cs.map (·.1) := by
  unfold setC
  rw [List.map_map]
  apply List.map_congr_left
  intro x _
  simp only [Function.comp]
  split <;> rfl
theorem Rep.cause (R : Rep S r n0 ℓ b sk dn st) {n : Int} {c : Ca} (h : valG st.causes n = some c) : S[ℓ n]? = some c.cell ∧ r + 4 < ℓ n := R.ce (n, c) (valG_mem h)
theorem mem_set {cs : List (Int × Ca)} {n : Int} {c : Ca} {x : Int × Ca} (h : x ∈ setC cs n c) : (x.1 = n ∧ x.2 = c ∧ ∃ c0, (n, c0) ∈ cs) ∨ (x.1 ≠ n ∧ x ∈ cs) := by
  obtain ⟨y, hy, rfl⟩ := List.mem_map.mp h
  by_cases e : y.1 = n
  · simp only [e, if_true]
    exact .inl ⟨by simp, by simp, y.2, by rw [← e]; exact hy⟩
  · simp only [e, if_false]
    exact .inr ⟨e, hy⟩
theorem Rep.set (R : Rep S r n0 ℓ b sk dn st) {n : Int} {c c' : Ca} (h : valG st.causes n = some c) : Rep (S.set (ℓ n) c'.cell) r n0 ℓ b sk dn (st.setC n c') := by
  have hc := R.cause h
  have hlt := R.lt
  have hm := valG_mem h
  exact {
    me := set_ne R.me (by omega)
    lt := R.lt
    sk := set_ne R.sk (by omega)
    dn := set_ne R.dn (by omega)
    ca := by
      show _ = some (C.dK false (caD ℓ (setC st.causes n c')))
      rw [caD_set]; exact set_ne R.ca (by omega)
    pa := set_ne R.pa (by omega)
    wo := set_ne R.wo (by omega)
    lo := set_ne R.lo (by omega)
    ce := fun x hx => by
      rcases mem_set hx with ⟨e1, e2, _⟩ | ⟨e1, e2⟩
      · rw [e1, e2]; exact ⟨at_set hc.1, hc.2⟩
      · exact ⟨set_ne (R.ce x e2).1 (fun e => e1 (R.inj x e2 (n, c) hm e.symm)), (R.ce x e2).2⟩
    inj := fun x hx y hy e => by
      rcases mem_set hx with ⟨e1, _, c1, hc1⟩ | ⟨e1, e2⟩ <;> rcases mem_set hy with ⟨g1, _, c2, hc2⟩ | ⟨g1, g2⟩
      · rw [e1, g1]
      · rw [e1] at e ⊢; exact R.inj _ hc1 y g2 e
      · rw [g1] at e ⊢; exact R.inj x e2 _ hc2 e
      · exact R.inj x e2 y g2 e
    nd := by show ((setC st.causes n c').map (·.1)).Nodup; rw [keys_set]; exact R.nd }
theorem Rep.words (R : Rep S r n0 ℓ b sk dn st) (w : Str) : Rep (S.set (r + 3) (.lst (st.words.map .str ++ [.str w]))) r n0 ℓ b sk dn { st with words := st.words ++ [w] } := by
  have hlt := R.lt
  exact {
    me := set_ne R.me (by omega)
    lt := R.lt
    sk := set_ne R.sk (by omega)
    dn := set_ne R.dn (by omega)
    ca := set_ne R.ca (by omega)
    pa := set_ne R.pa (by omega)
    wo := by rw [at_set R.wo]; simp
    lo := set_ne R.lo (by omega)
    ce := fun x hx => ⟨set_ne (R.ce x hx).1 (by have := (R.ce x hx).2; omega), (R.ce x hx).2⟩
    inj := R.inj
    nd := R.nd }
theorem Rep.lost (R : Rep S r n0 ℓ b sk dn st) (w : Int × Int × Int) : Rep (S.set (r + 4) (.lst (st.lost.map tripI ++ [tripI w]))) r n0 ℓ b sk dn { st with lost := st.lost ++ [w] } := by
  have hlt := R.lt
  exact {
    me := set_ne R.me (by omega)
    lt := R.lt
    sk := set_ne R.sk (by omega)
    dn := set_ne R.dn (by omega)
    ca := set_ne R.ca (by omega)
    pa := set_ne R.pa (by omega)
    wo := set_ne R.wo (by omega)
    lo := by rw [at_set R.lo]; simp
    ce := fun x hx => ⟨set_ne (R.ce x hx).1 (by have := (R.ce x hx).2; omega), (R.ce x hx).2⟩
    inj := R.inj
    nd := R.nd }
theorem Rep.pard (R : Rep S r n0 ℓ b sk dn st) (w : Int × Int) : Rep (S.set (r + 2) (.lst (st.pardons.map pairI ++ [pairI w]))) r n0 ℓ b sk dn { st with pardons := st.pardons ++ [w] } := by
  have hlt := R.lt
  exact {
    me := set_ne R.me (by omega)
    lt := R.lt
    sk := set_ne R.sk (by omega)
    dn := set_ne R.dn (by omega)
    ca := set_ne R.ca (by omega)
    pa := by rw [at_set R.pa]; simp
    wo := set_ne R.wo (by omega)
    lo := set_ne R.lo (by omega)
    ce := fun x hx => ⟨set_ne (R.ce x hx).1 (by have := (R.ce x hx).2; omega), (R.ce x hx).2⟩
    inj := R.inj
    nd := R.nd }
theorem Rep.strk (R : Rep S r n0 ℓ b sk dn st) (w : Option (Pa × Option Pa)) : Rep (S.set r (.ins "Reading" (rfs r n0 b w))) r n0 ℓ b sk dn { st with strike := w } := by
  have hlt := R.lt
  exact {
    me := at_set R.me
    lt := R.lt
    sk := set_ne R.sk (by omega)
    dn := set_ne R.dn (by omega)
    ca := set_ne R.ca (by omega)
    pa := set_ne R.pa (by omega)
    wo := set_ne R.wo (by omega)
    lo := set_ne R.lo (by omega)
    ce := fun x hx => ⟨set_ne (R.ce x hx).1 (by have := (R.ce x hx).2; omega), (R.ce x hx).2⟩
    inj := R.inj
    nd := R.nd }
/-- a new cause, its cell at the end -/
theorem Rep.add (R : Rep S r n0 ℓ b sk dn st) {n : Int} {c : Ca} (h : valG st.causes n = none) : Rep ((S ++ [c.cell]).set (r + 1) (.dK false (caD ℓ st.causes ++ [(.inl n, .loc S.length)]))) r n0 (fun k => if k = n then S.length else ℓ k) b sk dn { st with causes := st.causes ++ [(n, c)] } := by
  have hlt := R.lt
  have hn := valG_none_iff.mp h
  have hlen : r + 4 < S.length := lt_of_at R.lo
  have el : caD (fun k => if k = n then S.length else ℓ k) st.causes = caD ℓ st.causes := by
    unfold caD
    apply List.map_congr_left
    intro x hx
    simp only [hn x hx, if_false]
  have hce : ∀ x ∈ st.causes, ℓ x.1 < S.length := fun x hx => lt_of_at (R.ce x hx).1
  exact {
    me := set_ne (app_at R.me) (by omega)
    lt := R.lt
    sk := set_ne (app_at R.sk) (by omega)
    dn := set_ne (app_at R.dn) (by omega)
    ca := by
      rw [at_set (app_at R.ca)]
      show _ = some (C.dK false (caD _ (st.causes ++ [(n, c)])))
      have : caD (fun k => if k = n then S.length else ℓ k) (st.causes ++ [(n, c)]) = caD (fun k => if k = n then S.length else ℓ k) st.causes ++ [(.inl n, .loc S.length)] := by simp [caD]
      rw [this, el]
    pa := set_ne (app_at R.pa) (by omega)
    wo := set_ne (app_at R.wo) (by omega)
    lo := set_ne (app_at R.lo) (by omega)
    ce := fun x hx => by
      rcases List.mem_append.mp hx with hx | hx
      · simp only [hn x hx, if_false]
        exact ⟨set_ne (app_at (R.ce x hx).1) (by have := (R.ce x hx).2; omega), (R.ce x hx).2⟩
      · simp only [List.mem_singleton] at hx
        subst hx
        simp only [if_true]
        exact ⟨set_ne app_new (by omega), hlen⟩
    inj := fun x hx y hy e => by
      simp only [List.mem_append, List.mem_singleton] at hx hy
      rcases hx with hx | rfl <;> rcases hy with hy | rfl
      · simp only [hn x hx, hn y hy, if_false] at e; exact R.inj x hx y hy e
      · simp only [hn x hx, if_false, if_true] at e; have := hce x hx; omega
      · simp only [hn y hy, if_false, if_true] at e; have := hce y hy; omega
      · rfl
    nd := by
      show ((st.causes ++ [(n, c)]).map (·.1)).Nodup
      rw [List.map_append, List.nodup_append]
      refine ⟨R.nd, by simp, ?_⟩
      intro a ha b hb
      obtain ⟨x, hx, rfl⟩ := List.mem_map.mp ha
      simp only [List.map_cons, List.map_nil, List.mem_singleton] at hb
      subst hb
      exact hn x hx }
end Sp

/-! SpE: what a reading's methods do, one by one. -/
namespace Sp
open PySem L2 Z
section
variable {r n0 : Nat} {b : Be} {x : Option (Pa × Option Pa)}
theorem lr_bench : (rfs r n0 b x).lookup ("bench" : Str) = some b.D := by simp [rfs, List.lookup, ofString_beq]
theorem lr_struck : (rfs r n0 b x).lookup ("struck" : Str) = some (.loc n0) := by simp [rfs, List.lookup, ofString_beq]
theorem lr_done : (rfs r n0 b x).lookup ("done" : Str) = some (.loc (n0 + 1)) := by simp [rfs, List.lookup, ofString_beq]
theorem lr_causes : (rfs r n0 b x).lookup ("causes" : Str) = some (.loc (r + 1)) := by simp [rfs, List.lookup, ofString_beq]
theorem lr_pardons : (rfs r n0 b x).lookup ("pardons" : Str) = some (.loc (r + 2)) := by simp [rfs, List.lookup, ofString_beq]
theorem lr_words : (rfs r n0 b x).lookup ("words" : Str) = some (.loc (r + 3)) := by simp [rfs, List.lookup, ofString_beq]
theorem lr_lost : (rfs r n0 b x).lookup ("lost" : Str) = some (.loc (r + 4)) := by simp [rfs, List.lookup, ofString_beq]
theorem lr_strike : (rfs r n0 b x).lookup ("strike" : Str) = some (optStr x) := by simp [rfs, List.lookup, ofString_beq]
theorem lr_no {m : String} (h : m = "is_away" ∨ m = "other_judged" ∨ m = "judge" ∨ m = "bill" ∨ m = "miss" ∨ m = "put_over" ∨ m = "by_bench" ∨ m = "charge" ∨ m = "pardon" ∨ m = "aside" ∨ m = "hold" ∨ m = "pledge" ∨ m = "in_open" ∨ m = "read") : (rfs r n0 b x).lookup (m : Str) = none := by
  rcases h with h | h | h | h | h | h | h | h | h | h | h | h | h | h <;> subst h <;> simp [rfs, List.lookup, ofString_beq]
theorem put_strike (p : Pa) (j : Option Pa) : putD ("strike" : Str) (.tup [p.D, byD j]) (rfs r n0 b x) = rfs r n0 b (some (p, j)) := by simp [rfs, putD, ofString_inj, optStr]
theorem rfs_len : (rfs r n0 b x).length < 1000 := by simp [rfs]
end
theorem py_strs : ∀ xs : List Str, toPyDs (xs.map Z.D.str) = some (xs.map PyData.str)
  | [] => rfl
  | x :: xs => by simp [toPyDs, toPyD, py_strs xs]
theorem plain_strs : ∀ xs : List Str, PyData.plainAll (xs.map PyData.str) = true
  | [] => rfl
  | x :: xs => by simp [PyData.plainAll, PyData.plain, plain_strs xs]
theorem any_strs (x : Str) (xs : List Str) : (xs.map PyData.str).any (fun y => PyData.eqv y (.str x)) = decide (x ∈ xs) := by
  rw [List.any_map]
  induction xs with
  | nil => simp
  | cons y xs ih =>
    rw [List.any_cons, ih]
    by_cases h : y = x
    · subst h; simp [PyData.eqv]
    · have h2 : ¬ x = y := fun e => h e.symm
      simp [PyData.eqv, h, h2]
theorem in_strsT (x : Str) (xs : List Str) (S : Sto) : inP (.str x) (.tup (xs.map Z.D.str)) S = some (decide (x ∈ xs)) := by
  have e : inB (.str x) (.tuple (xs.map PyData.str)) = true := by simp [inB, PyData.plain, PyData.depth, plain_strs]
  have e2 : inPy (.str x) (.tuple (xs.map PyData.str)) = decide (x ∈ xs) := any_strs x xs
  unfold inP
  simp only [dLook, toPy, toPyD, py_strs, Option.map_some, e, if_true, e2]
theorem in_strsL (x : Str) (xs : List Str) (S : Sto) : inP (.str x) (.lst (xs.map Z.D.str)) S = some (decide (x ∈ xs)) := by
  have e : inB (.str x) (.list (xs.map PyData.str)) = true := by simp [inB, PyData.plain, PyData.depth, plain_strs]
  have e2 : inPy (.str x) (.list (xs.map PyData.str)) = decide (x ∈ xs) := any_strs x xs
  unfold inP
  simp only [dLook, toPy, toPyD, py_strs, Option.map_some, e, if_true, e2]
theorem flat_strs : ∀ xs : List Str, flatDs (xs.map Z.D.str) = some (xs.map V.str)
  | [] => rfl
  | x :: xs => by simp [flatDs, flatD, flat_strs xs]
theorem inV_strs (x : Str) (xs : List Str) : inV (.str x) (xs.map V.str) = decide (x ∈ xs) := by
  unfold inV
  rw [List.any_map]
  induction xs with
  | nil => simp
  | cons y xs ih =>
    rw [List.any_cons, ih]
    have e : eqV (.str y) (.str x) = decide (y = x) := by
      rw [Bool.eq_iff_iff, decide_eq_true_iff]
      simp [eqV]
    simp only [Function.comp, e]
    by_cases h : y = x
    · subst h; simp
    · have h2 : ¬ x = y := fun e => h e.symm
      simp [h, h2]
theorem in_strsK (x : Str) (xs : List Str) (S : Sto) : inP (.str x) (.ktup (xs.map Z.D.str)) S = some (decide (x ∈ xs)) := by
  unfold inP
  simp only [dLook, flatD, flat_strs, inV_strs]
theorem in_judged (w : Wd) (S : Sto) : inP (.str w.s) (.ktup [.str "guilty", .str "clear"]) S = some w.judged := by
  refine (in_strsK _ [("guilty" : Str), ("clear" : Str)] S).trans ?_
  cases w <;> simp [Wd.s, Wd.judged, ofString_inj]
theorem in_open (w : Wd) (S : Sto) : inP (.str w.s) (.ktup [.str "charged", .str "ready"]) S = some w.isOpen := by
  refine (in_strsK _ [("charged" : Str), ("ready" : Str)] S).trans ?_
  cases w <;> simp [Wd.s, Wd.isOpen, ofString_inj]
theorem in_judgedT (w : Wd) (S : Sto) : inP (.str w.s) (.tup [.str "guilty", .str "clear"]) S = some w.judged := by
  refine (in_strsT _ [("guilty" : Str), ("clear" : Str)] S).trans ?_
  cases w <;> simp [Wd.s, Wd.judged, ofString_inj]
theorem in_openT (w : Wd) (S : Sto) : inP (.str w.s) (.tup [.str "charged", .str "ready"]) S = some w.isOpen := by
  refine (in_strsT _ [("charged" : Str), ("ready" : Str)] S).trans ?_
  cases w <;> simp [Wd.s, Wd.isOpen, ofString_inj]
theorem in_chT (w : Wd) (S : Sto) : inP (.str w.s) (.tup [.str "charged"]) S = some (w == .charged) := by
  refine (in_strsT _ [("charged" : Str)] S).trans ?_
  cases w <;> simp [Wd.s, ofString_inj]
theorem in_rdT (w : Wd) (S : Sto) : inP (.str w.s) (.tup [.str "ready"]) S = some (w == .ready) := by
  refine (in_strsT _ [("ready" : Str)] S).trans ?_
  cases w <;> simp [Wd.s, ofString_inj]
theorem in_str3 (x a b c : Str) (S : Sto) : inP (.str x) (.tup [.str a, .str b, .str c]) S = some (decide (x = a ∨ x = b ∨ x = c)) := by
  refine (in_strsT x [a, b, c] S).trans ?_
  simp
theorem eq_pair (a b c d : Int) (S : Sto) : dEq (.tup [.int a, .int b]) (.tup [.int c, .int d]) S = .ok (.bl (decide (a = c ∧ b = d))) S := by
  refine (dEq_row [.inl a, .inl b] [.inl c, .inl d] S).trans ?_
  congr 2
  simp
theorem hz : sizeLine = 16777216 := rfl
def sitD : Option (Int × Int × Int) → Z.D
  | none => .non
  | some t => tsD t
variable [Rz]
variable {S : Sto} {r n0 : Nat} {ℓ : Int → Nat} {b : Be} {sk : List (Pa × Pa)} {dn : List Pa} {st : St} {c : Ca}
omit [Rz] in
theorem b0 {S : Sto} : dIxA b.D (.int 0) S = .ok (.tup (b.ts.map tsD)) S := rfl
omit [Rz] in
theorem b1 {S : Sto} : dIxA b.D (.int 1) S = .ok (.int b.hold) S := rfl
omit [Rz] in
theorem b2 {S : Sto} : dIxA b.D (.int 2) S = .ok (.int b.puts) S := rfl
omit [Rz] in
theorem b3 {S : Sto} : dIxA b.D (.int 3) S = .ok (.int b.pledges) S := rfl
omit [Rz] in
theorem t0 {S : Sto} {t : Int × Int × Int} : dIxA (tsD t) (.int 0) S = .ok (.int t.1) S := rfl
omit [Rz] in
theorem t1 {S : Sto} {t : Int × Int × Int} : dIxA (tsD t) (.int 1) S = .ok (.int t.2.1) S := rfl
omit [Rz] in
theorem t2 {S : Sto} {t : Int × Int × Int} : dIxA (tsD t) (.int 2) S = .ok (.int t.2.2) S := rfl
theorem sitting_on_ok (day : Int) (S : Sto) : Pg.m_sitting_on [b.D, .int day] S = .ok (sitD (sitOn b day)) S := by
  refine wp_eq ?_
  unfold Pg.m_sitting_on
  simp [b0]
  refine for_find (keep_nil S) (fun t => decide (t.1 ≤ day) && decide (day ≤ t.2.1)) tsD (fun τ => ∃ x, τ = [some b.D, some (.int day), x]) b.ts _ ⟨_, rfl⟩ ?_ ?_ ?_
  · rintro t _ _ ⟨x, rfl⟩
    refine ⟨_, rfl, ?_⟩
    by_cases q1 : t.1 ≤ day <;> by_cases q2 : day ≤ t.2.1 <;> simp [t0, t1, q1, q2]
  · rintro h τ ⟨x, rfl⟩
    simp [sitOn, h, sitD]
  · rintro t h
    simp [sitOn, h, sitD]
theorem away_ok (R : Rep S r n0 ℓ b sk dn st) {l : Nat} (hc : S[l]? = some c.cell) (day : Int) : Pg.m_Reading_is_away [.loc r, .loc l, .int day] S = .ok (.bl (awayB b c day)) S := by
  have h2 : S[l]? = some (.ins "Cause" c.fs) := hc
  refine wp_eq ?_
  unfold Pg.m_Reading_is_away
  simp [R.me, lr_bench, sitting_on_ok]
  unfold awayB
  cases e : sitOn b day with
  | none => simp [sitD, dIsN, Z.isNon]
  | some t => simp [sitD, tsD, dIsN, Z.isNon, at2, h2, lk_town]
theorem locked {r1 : Nat} {x : C} (h : S[r1]? = some x) {c0 : C} {l : Nat} (hl : S[l]? = some c0) (hn : r1 ≠ l) (y : C) : (S.set r1 y)[l]? = some c0 := set_ne hl hn
theorem otherj_ok (R : Rep S r n0 ℓ b sk dn st) (n p e : Int) : Pg.m_Reading_other_judged [.loc r, .int n, .int p, .int e] S = .ok (.bl (otherJ st n p e)) S := by
  refine wp_eq ?_
  unfold Pg.m_Reading_other_judged
  simp only [x_run, List.length_cons, List.length_nil, wpS_seq, true_and]
  rw [x_lock (l := r + 1) (S0 := S) (by simp [R.me, lr_causes]) R.ca, wpS_unlock]
  have hlk : (S.set (r + 1) (.dK true (caD ℓ st.causes)))[r + 1]? = some (.dK true (caD ℓ st.causes)) := at_set R.ca
  have hme : (S.set (r + 1) (.dK true (caD ℓ st.causes)))[r]? = some (.ins "Reading" (rfs r n0 b st.strike)) := set_ne R.me (by omega)
  simp [hme, lr_causes, items_locked hlk]
  have e1 : (caD ℓ st.causes).map pairD = st.causes.map fun x => .tup [.int x.1, .loc (ℓ x.1)] := by
    unfold caD; rw [List.map_map]; rfl
  rw [e1]
  refine for_find (keepOk1.mpr hlk) (fun x => decide (x.1 ≠ n) && (decide (x.2.person = p ∧ x.2.deed = e) && x.2.word.judged)) (fun _ => .bl true) (fun τ => ∃ x y, τ = [some (.loc r), some (.int n), some (.int p), some (.int e), x, y]) st.causes _ ⟨_, _, rfl⟩ ?_ ?_ ?_
  · rintro ⟨k, c⟩ hx _ ⟨x, y, rfl⟩
    refine ⟨_, rfl, ?_⟩
    have hc := set_ne (k := r + 1) (c := .dK true (caD ℓ st.causes)) (R.ce _ hx).1 (by have := (R.ce _ hx).2; omega)
    have h2 : (S.set (r + 1) (.dK true (caD ℓ st.causes)))[ℓ k]? = some (.ins "Cause" c.fs) := hc
    by_cases q1 : k = n
    · simp [q1]
    · simp [q1, h2, lk_person, lk_deed, lk_word, eq_pair, in_judged]
      by_cases q2 : c.person = p <;> by_cases q3 : c.deed = e <;> simp [q2, q3, hz]
      cases c.word.judged <;> simp
  · rintro h τ ⟨x, y, rfl⟩
    refine ⟨hlk, ?_⟩
    have : otherJ st n p e = false := by
      unfold otherJ
      rw [List.any_eq_false]
      exact fun x hx => by simpa using List.find?_eq_none.mp h x hx
    simp [set_back R.ca, this]
  · rintro a h
    have : otherJ st n p e = true := by
      unfold otherJ
      rw [List.any_eq_true]
      exact ⟨a, List.mem_of_find?_eq_some h, by simpa using List.find?_some h⟩
    exact ⟨hlk, by rw [this], set_back R.ca⟩
end Sp

/-! SpF: charge, pardon, aside. -/
namespace Sp
open PySem L2 Z
variable [Rz]
variable {S : Sto} {r n0 : Nat} {ℓ : Int → Nat} {b : Be} {sk : List (Pa × Pa)} {dn : List Pa} {st : St} {c : Ca}
/-- sizes in hand -/
structure Sz (b : Be) (st : St) : Prop where
  hold : 0 ≤ b.hold ∧ b.hold ≤ 1000
  sm : ∀ x ∈ st.causes, Sm x.2
  n1 : st.causes.length < 1000
  n2 : st.pardons.length < 1000
  n3 : st.words.length < 1000
  n4 : st.lost.length < 1000
/-- the call tells the word and makes the state -/
def Does (o : R Z.D) (S : Sto) (r n0 : Nat) (b : Be) (sk : List (Pa × Pa)) (dn : List Pa) (x : Str × St) : Prop :=
  wpR o fun d S' => d = .str x.1 ∧ Fr r S S' ∧ ∃ ℓ', Rep S' r n0 ℓ' b sk dn x.2
theorem Does.same (R : Rep S r n0 ℓ b sk dn st) {w : Str} {d : Z.D} (e : d = .str w) : d = .str (w, st).1 ∧ Fr r S S ∧ ∃ ℓ', Rep S r n0 ℓ' b sk dn (w, st).2 := ⟨e, Fr.refl _ _, ℓ, R⟩
theorem chargeD (d n p e t : Int) : (Pa.charge d n p e t).D = .tup [.int d, .str "charge", .int n, .int p, .int e, .int t] := rfl
theorem memB_map {α : Type} [DecidableEq α] (f : α → List Key) (hf : ∀ a b, f a = f b → a = b) (a : α) : ∀ as : List α, memB (f a) (as.map f) = decide (a ∈ as)
  | [] => by simp [memB]
  | x :: as => by
    have e : memB (f a) ((x :: as).map f) = (decide (f x = f a) || memB (f a) (as.map f)) := rfl
    rw [e, memB_map f hf a as]
    by_cases h : x = a
    · subst h; simp
    · have h2 : ¬ a = x := fun e => h e.symm
      have h3 : f x ≠ f a := fun e => h (hf _ _ e)
      simp [h2, h3]
theorem pairs_in (p e : Int) (l : Nat) (ps : List (Int × Int)) (S : Sto) (h : S[l]? = some (.lst (ps.map pairI))) : inP (.tup [.int p, .int e]) (.loc l) S = some (decide ((p, e) ∈ ps)) := by
  have e1 : ps.map pairI = (ps.map fun x => ([.inl x.1, .inl x.2] : List Key)).map rowD := by rw [List.map_map]; rfl
  rw [e1] at h
  refine (in_rowsL (a := [.inl p, .inl e]) h).trans ?_
  rw [memB_map (fun x : Int × Int => ([.inl x.1, .inl x.2] : List Key)) (fun a b h => by simp at h; exact Prod.ext h.1 h.2) (p, e)]
  exact congrArg some (by rw [Bool.eq_iff_iff]; simp)
theorem caD_len (ℓ : Int → Nat) (cs : List (Int × Ca)) : (caD ℓ cs).length = cs.length := by simp [caD]
theorem x_put_new {S : Sto} {r : Nat} {n : Int} {d : Z.D} {cs : List (Int × Ca)} {ℓ : Int → Nat} (h : S[r]? = some (.dK false (caD ℓ cs))) (hn : valG cs n = none) (hz : cs.length < 1000) : dPut (.loc r) (.int n) d S = some (S.set r (.dK false (caD ℓ cs ++ [(.inl n, d)]))) := by
  rw [put_KI h (by rw [caD_len]; omega), putG_new (by rw [valG_caD, hn]; rfl)]
theorem charge_ok (R : Rep S r n0 ℓ b sk dn st) (Z : Sz b st) (d n p e t : Int) : Does (Pg.m_Reading_charge [.loc r, (Pa.charge d n p e t).D] S) S r n0 b sk dn (doCharge st d n p e t) := by
  unfold Does Pg.m_Reading_charge
  cases q1 : (valG st.causes n).isSome with
  | true =>
    simp [chargeD, bindT, setAll, R.me, lr_causes, in_dKI R.ca, valG_caD, q1, doCharge]
    exact ⟨Fr.refl _ _, _, R⟩
  | false =>
    have q1' : valG st.causes n = none := by simpa using q1
    cases q2 : otherJ st n p e with
    | true =>
      simp [chargeD, bindT, setAll, R.me, lr_causes, lr_no, in_dKI R.ca, valG_caD, q1', doCharge, otherj_ok R, q2]
      exact ⟨Fr.refl _ _, _, R⟩
    | false =>
      by_cases q3 : (p, e) ∈ st.pardons
      · simp [chargeD, bindT, setAll, R.me, lr_causes, lr_pardons, lr_no, in_dKI R.ca, valG_caD, q1', doCharge, otherj_ok R, q2, hz, pairs_in p e _ _ _ R.pa, q3]
        exact ⟨Fr.refl _ _, _, R⟩
      · have hl : r + 4 < S.length := lt_of_at R.lo
        have e0 : (S ++ [C.ins ("Cause" : Str) []])[S.length]? = some (.ins "Cause" []) := app_new
        have e1 := init_ok e0 d p e t
        have e2 : (S ++ [C.ins ("Cause" : Str) []]).set S.length (Ca.new d p e t).cell = S ++ [(Ca.new d p e t).cell] := by simp
        rw [e2] at e1
        have me : (S ++ [(Ca.new d p e t).cell])[r]? = some (.ins "Reading" (rfs r n0 b st.strike)) := app_at R.me
        have hp := x_put_new (d := .loc S.length) (app_at (T := [(Ca.new d p e t).cell]) R.ca) q1' Z.n1
        simp [chargeD, bindT, setAll, R.me, lr_causes, lr_pardons, lr_no, in_dKI R.ca, valG_caD, q1', doCharge, otherj_ok R, q2, hz, pairs_in p e _ _ _ R.pa, q3, e1, me, hp]
        exact ⟨(Fr.app (by omega)).trans (Fr.set (by omega)), _, R.add q1'⟩
theorem setC_none {n : Int} {c : Ca} : ∀ {cs : List (Int × Ca)}, (∀ x ∈ cs, x.1 ≠ n) → setC cs n c = cs
  | [], _ => rfl
  | x :: cs, h => by
    have ih := setC_none (c := c) (cs := cs) fun y hy => h y (by simp [hy])
    have e : setC (x :: cs) n c = (if x.1 = n then (x.1, c) else x) :: setC cs n c := rfl
    rw [e, if_neg (h x (by simp)), ih]
theorem setC_mid {k : Int} {c c' : Ca} {pre as : List (Int × Ca)} (h : ((pre ++ (k, c) :: as).map (·.1)).Nodup) : setC (pre ++ (k, c) :: as) k c' = pre ++ (k, c') :: as := by
  rw [List.map_append, List.map_cons, List.nodup_append] at h
  obtain ⟨_, h2, h3⟩ := h
  have h4 := List.nodup_cons.mp h2
  have e : setC (pre ++ (k, c) :: as) k c' = setC pre k c' ++ (k, c') :: setC as k c' := by simp [setC]
  rw [e, setC_none, setC_none]
  · intro x hx e
    exact h4.1 (List.mem_map.mpr ⟨x, hx, e⟩)
  · intro x hx e
    exact h3 x.1 (List.mem_map.mpr ⟨x, hx, rfl⟩) k (by simp) e
theorem valG_mid {k : Int} {c : Ca} {pre as : List (Int × Ca)} (h : ((pre ++ (k, c) :: as).map (·.1)).Nodup) : valG (pre ++ (k, c) :: as) k = some c := by
  rw [List.map_append, List.map_cons, List.nodup_append] at h
  obtain ⟨_, h2, h3⟩ := h
  rw [valG_append, valG_none_iff.mpr, valG_cons]
  · simp
  · intro x hx e
    exact h3 x.1 (List.mem_map.mpr ⟨x, hx, rfl⟩) k (by simp) e
theorem app_list {S : Sto} {l : Nat} {ds : List Z.D} {y : Z.D} (h : S[l]? = some (.lst ds)) (hn : ds.length < 16777216) : dAppend (.loc l) [y] S = .ok .non (S.set l (.lst (ds ++ [y]))) := by
  have hn : ds.length < sizeLine := hn
  simp [dAppend, h, hn]
theorem isTy_list {S : Sto} {l : Nat} {ds : List Z.D} (h : S[l]? = some (.lst ds)) : isTy "list" (.loc l) S = true := by simp [isTy, h]
theorem pardon_ok (R : Rep S r n0 ℓ b sk dn st) (hZ : Sz b st) {d : Int} (hd : 0 ≤ d ∧ d ≤ 60) (p e : Int) : Does (Pg.m_Reading_pardon [.loc r, .int d, .tup [.int p, .int e]] S) S r n0 b sk dn (doPardon b st d p e) := by
  unfold Does Pg.m_Reading_pardon
  have hin := pairs_in p e _ _ _ R.pa
  by_cases q3 : (p, e) ∈ st.pardons
  · simp [R.me, lr_pardons, hin, q3, doPardon]
    exact ⟨Fr.refl _ _, _, R⟩
  · have R1 : Rep (S.set (r + 2) (.lst (st.pardons.map pairI ++ [.tup [.int p, .int e]]))) r n0 ℓ b sk dn { st with pardons := st.pardons ++ [(p, e)] } := R.pard (p, e)
    have e1 := app_list (y := .tup [.int p, .int e]) R.pa (by have := hZ.n2; rw [List.length_map]; omega)
    simp [R.me, lr_pardons, hin, q3, doPardon, isTy_list R.pa, e1]
    have hfr : Fr r S (S.set (r + 2) (.lst (st.pardons.map pairI ++ [.tup [.int p, .int e]]))) := Fr.set (by omega)
    generalize S.set (r + 2) (.lst (st.pardons.map pairI ++ [.tup [.int p, .int e]])) = S1 at *
    rw [x_lock (l := r + 1) (S0 := S1) (by simp [R1.me, lr_causes]) R1.ca, wpS_unlock]
    have hlk : (S1.set (r + 1) (.dK true (caD ℓ st.causes)))[r + 1]? = some (.dK true (caD ℓ st.causes)) := at_set R1.ca
    have hme : (S1.set (r + 1) (.dK true (caD ℓ st.causes)))[r]? = some (.ins "Reading" (rfs r n0 b st.strike)) := set_ne R1.me (by omega)
    simp [hme, lr_causes, vals_locked hlk]
    have e3 : (caD ℓ st.causes).map (·.2) = st.causes.map fun x => .loc (ℓ x.1) := by
      unfold caD; rw [List.map_map]; rfl
    rw [e3]
    refine for_src (fun as τ S' => ∃ (y : Option Z.D) (pre : List (Int × Ca)) (S2 : Sto), τ = [some (.loc r), some (.int d), some (.tup [.int p, .int e]), y] ∧ st.causes = pre ++ as ∧ S' = S2.set (r + 1) (.dK true (caD ℓ st.causes)) ∧ Fr r S S2 ∧ Rep S2 r n0 ℓ b sk dn { st with pardons := st.pardons ++ [(p, e)], causes := pre.map (fun x : Int × Ca => (x.1, pardC b.hold d p e x.2)) ++ as }) ?_ ?_ ?_ st.causes _ _ ⟨_, [], S1, rfl, rfl, rfl, hfr, R1⟩
    · rintro as τ S' ⟨y, pre, S2, rfl, h1, rfl, h2, R2⟩
      exact keepOk1.mpr (at_set R2.ca)
    · rintro ⟨k, c⟩ as τ S' ⟨y, pre, S2, rfl, h1, rfl, h2, R2⟩
      refine ⟨_, rfl, ?_⟩
      have hc2 := R2.ce (k, c) (by simp)
      have hsm := hZ.sm (k, c) (by rw [h1]; simp)
      have hc := set_ne (k := r + 1) (c := .dK true (caD ℓ st.causes)) hc2.1 (by have := hc2.2; omega)
      have hc' : (S2.set (r + 1) (.dK true (caD ℓ st.causes)))[ℓ k]? = some (.ins "Cause" c.fs) := hc
      have hme2 : (S2.set (r + 1) (.dK true (caD ℓ st.causes)))[r]? = some (.ins "Reading" (rfs r n0 b st.strike)) := set_ne R2.me (by omega)
      have hend := end_ok hc hsm (most := b.hold) (day := d) (by have := hZ.hold; omega) (by omega) .pardoned
      have hw : Wd.pardoned.s = "pardoned" := rfl
      rw [hw] at hend
      by_cases q1 : c.person = p ∧ c.deed = e
      · cases q2 : c.word.isOpen with
        | true =>
          simp [hc', lk_person, lk_deed, lk_word, lk_end, eq_pair, q1, in_open, q2, hme2, lr_bench, b1, hend, hz]
          have hpc : pardC b.hold d p e c = c.fin b.hold d .pardoned := if_pos ⟨q1, q2⟩
          refine ⟨pre ++ [(k, c)], by simp [h1], S2.set (ℓ k) (c.fin b.hold d .pardoned).cell, ?_, h2.trans (Fr.set (by have := hc2.2; simp only at this; omega)), ?_⟩
          · exact List.set_comm _ _ (by have := hc2.2; simp only at this; omega)
          · have nd := R2.nd
            simp only at nd
            have R3 := R2.set (n := k) (c := c) (c' := c.fin b.hold d .pardoned) (valG_mid nd)
            unfold St.setC at R3
            simp only at R3
            rw [setC_mid nd] at R3
            simpa [hpc] using R3
        | false =>
          simp [hc', lk_person, lk_deed, lk_word, lk_end, eq_pair, q1, in_open, q2, hme2, lr_bench, b1, hend, hz]
          have hpc : pardC b.hold d p e c = c := if_neg (by simp [q2])
          exact ⟨pre ++ [(k, c)], by simp [h1], S2, rfl, h2, by simpa [hpc] using R2⟩
      · have hpc : pardC b.hold d p e c = c := if_neg (fun h => q1 h.1)
        by_cases q1a : c.person = p <;> by_cases q1b : c.deed = e <;> simp [q1a, q1b] at q1 <;> simp [hc', lk_person, lk_deed, lk_word, lk_end, eq_pair, q1a, q1b, in_open, hme2, lr_bench, b1, hz]
        all_goals exact ⟨pre ++ [(k, c)], by simp [h1], S2, rfl, h2, by simpa [hpc] using R2⟩
    · rintro τ S' ⟨y, pre, S2, rfl, h1, rfl, h2, R2⟩
      refine ⟨at_set R2.ca, ?_⟩
      have e4 : st.causes = pre := by simpa using h1
      subst e4
      have hca := R2.ca
      simp only [List.append_nil, caD_map] at hca
      rw [set_back hca]
      exact ⟨h2, _, by simpa using R2⟩
end Sp

/-! SpG: aside, hold, pledge, move. -/
namespace Sp
open PySem L2 Z
variable [Rz]
variable {S : Sto} {r n0 : Nat} {ℓ : Int → Nat} {b : Be} {sk : List (Pa × Pa)} {dn : List Pa} {st : St} {c : Ca}
omit [Rz] in
theorem set_same {l : Nat} {x : C} (h : S[l]? = some x) : S.set l x = S := by
  obtain ⟨hl, e⟩ := List.getElem?_eq_some_iff.mp h
  rw [← e]
  exact List.set_getElem_self hl
theorem same (R : Rep S r n0 ℓ b sk dn st) : Fr r S S ∧ ∃ ℓ', Rep S r n0 ℓ' b sk dn st := ⟨Fr.refl _ _, _, R⟩
theorem aside_ok (R : Rep S r n0 ℓ b sk dn st) {n : Int} (h : valG st.causes n = some c) (p : Pa) : Does (Pg.m_Reading_aside [.loc r, p.D, .loc (ℓ n)] S) S r n0 b sk dn (doAside dn st p c) := by
  have hc : S[ℓ n]? = some (.ins "Cause" c.fs) := (R.cause h).1
  unfold Does Pg.m_Reading_aside
  by_cases q1 : p ∈ dn
  · simp [R.me, lr_done, in_paL R.dn, q1, doAside]
    exact same R
  · cases q2 : c.word.judged with
    | false =>
      simp [R.me, lr_done, in_paL R.dn, q1, doAside, hc, lk_word, in_judged, q2]
      exact same R
    | true =>
      simp [R.me, lr_done, in_paL R.dn, q1, doAside, hc, lk_word, lk_by, in_judged, q2, hz, put_strike, rfs_len]
      exact ⟨Fr.set (Nat.le_refl _), _, R.strk _⟩
theorem hold_ok (R : Rep S r n0 ℓ b sk dn st) (hZ : Sz b st) {n : Int} (h : valG st.causes n = some c) {d : Int} (hd : 0 ≤ d ∧ d ≤ 60) : Does (Pg.m_Reading_hold [.loc r, .int d, .loc (ℓ n)] S) S r n0 b sk dn (doHold b st d n c) := by
  have hcc := (R.cause h).1
  have hlt := (R.cause h).2
  have hc : S[ℓ n]? = some (.ins "Cause" c.fs) := hcc
  have hsm := hZ.sm _ (valG_mem h)
  have hh := hZ.hold
  have e1 := held_ok hcc b.hold d
  have e2 := used_ok hcc b.hold d
  have e3 := letgo_ok hcc hsm (most := b.hold) (day := d) (by omega) (by omega)
  have hc2 : (S.set (ℓ n) (c.letGo b.hold d).cell)[ℓ n]? = some (.ins "Cause" (c.letGo b.hold d).fs) := at_set hcc
  unfold Does Pg.m_Reading_hold
  cases q1 : c.pledger with
  | some q =>
    simp [R.me, lr_bench, b1, hc, lk_pledger, isN_opt, q1, doHold]
    exact same R
  | none =>
    cases q2 : c.isHeld b.hold d with
    | true =>
      simp [R.me, lr_bench, b1, hc, lk_pledger, isN_opt, q1, doHold, lk_held, e1, q2]
      exact same R
    | false =>
      by_cases q3 : c.used b.hold d = b.hold
      · simp [R.me, lr_bench, b1, hc, lk_pledger, isN_opt, q1, doHold, lk_held, e1, q2, lk_used, e2, q3]
        exact same R
      · simp [R.me, lr_bench, b1, hc, lk_pledger, isN_opt, q1, doHold, lk_held, e1, q2, lk_used, e2, q3, lk_letgo, e3, hc2, fs_len, put_since, setset]
        exact ⟨Fr.set (by omega), _, R.set h⟩
theorem pledge_ok (R : Rep S r n0 ℓ b sk dn st) (hZ : Sz b st) {n : Int} (h : valG st.causes n = some c) {d : Int} (hd : 0 ≤ d ∧ d ≤ 60) (q : Int) : Does (Pg.m_Reading_pledge [.loc r, .int d, .loc (ℓ n), .int q] S) S r n0 b sk dn (doPledge b st d n q c) := by
  have hcc := (R.cause h).1
  have hlt := (R.cause h).2
  have hc : S[ℓ n]? = some (.ins "Cause" c.fs) := hcc
  have hsm := hZ.sm _ (valG_mem h)
  have hh := hZ.hold
  have e1 := held_ok hcc b.hold d
  have e3 := letgo_ok hcc hsm (most := b.hold) (day := d) (by omega) (by omega)
  have hc2 : (S.set (ℓ n) (c.letGo b.hold d).cell)[ℓ n]? = some (.ins "Cause" (c.letGo b.hold d).fs) := at_set hcc
  have ecount : ∀ τ : Tau, τ[0]? = some (some (.loc r)) → τ[3]? = some (some (.int q)) → τ.length = 5 → mLock (mFld "Reading" "causes" (mVar 0)) (mComp (iVal (mFld "Reading" "causes" (mVar 0))) (.nm 4) [4] (mB (mBin dEq (mFld "Cause" "pledger" (mVar 4)) (mVar 3))) (mVar 4)) τ S = .ok (.lst ((st.causes.filter fun x => decide (x.2.pledger = some q)).map fun x => .loc (ℓ x.1))) S := fun τ h0 h3 hl => by
    rw [x_lockE (l := r + 1) (S0 := S) (by simp [h0, R.me, lr_causes]) R.ca]
    have hlk : (S.set (r + 1) (.dK true (caD ℓ st.causes)))[r + 1]? = some (.dK true (caD ℓ st.causes)) := at_set R.ca
    have hme : (S.set (r + 1) (.dK true (caD ℓ st.causes)))[r]? = some (.ins "Reading" (rfs r n0 b st.strike)) := set_ne R.me (by omega)
    refine wp_eq ?_
    rw [wpR_unlock]
    have e4 : (caD ℓ st.causes).map (·.2) = st.causes.map fun x => .loc (ℓ x.1) := by
      unfold caD; rw [List.map_map]; rfl
    have hn1 := hZ.n1
    have el : lcL [(r + 1, .dK true (caD ℓ st.causes))] (.nm 4) [4] (mB (mBin dEq (mFld "Cause" "pledger" (mVar 4)) (mVar 3))) (mVar 4) (st.causes.map fun x => .loc (ℓ x.1)) τ (S.set (r + 1) (.dK true (caD ℓ st.causes))) = .ok ((st.causes.filter fun x => decide (x.2.pledger = some q)).map fun x => .loc (ℓ x.1)) (S.set (r + 1) (.dK true (caD ℓ st.causes))) := by
      refine lc_src (keepOk1.mpr hlk) (fun x : Int × Ca => decide (x.2.pledger = some q)) (fun x : Int × Ca => .loc (ℓ x.1)) _ fun x hx => ?_
      have hx1 : (S.set (r + 1) (.dK true (caD ℓ st.causes)))[ℓ x.1]? = some (.ins "Cause" x.2.fs) := set_ne (R.ce x hx).1 (by have := (R.ce x hx).2; omega)
      refine ⟨_, rfl, ?_, ?_⟩
      · refine wp_eq ?_
        match τ, hl, h0, h3 with
        | [a0, a1, a2, a3, a4], _, h0, h3 =>
          simp only [List.getElem?_cons_zero, List.getElem?_cons_succ, Option.some.injEq] at h0 h3
          subst h0 h3
          cases e : x.2.pledger with
          | none => simp [wipeT, hx1, lk_pledger, e, optD, dDat, toPy, toPyD, plainB, PyData.plain, PyData.depth, PyData.eqv]
          | some v => simp [wipeT, hx1, lk_pledger, e, optD]
      · intro _
        match τ, hl, h0, h3 with
        | [a0, a1, a2, a3, a4], _, h0, h3 => simp [wipeT]
    simp [h0, hme, lr_causes, vals_locked hlk, e4, el]
    refine ⟨by simp [hz]; omega, hlk, set_same R.ca⟩
  unfold Does Pg.m_Reading_pledge
  cases q1 : c.isHeld b.hold d with
  | false =>
    simp [R.me, lr_bench, b1, hc, lk_held, e1, q1, doPledge]
    exact same R
  | true =>
    by_cases q2 : q = c.person
    · simp [R.me, lr_bench, b1, hc, lk_held, e1, q1, doPledge, lk_person, q2]
      exact same R
    · by_cases q3 : (pledgeN st q : Int) = b.pledges
      · have q3' := q3
        unfold pledgeN at q3
        simp [R.me, lr_bench, b1, b3, hc, lk_held, e1, q1, doPledge, lk_person, q2, ecount, q3, q3']
        exact same R
      · have q3' := q3
        unfold pledgeN at q3
        simp [R.me, lr_bench, b1, b3, hc, lk_held, e1, q1, doPledge, lk_person, q2, ecount, q3, q3', lk_letgo, e3, hc2, fs_len, put_pledger, setset]
        exact ⟨Fr.set (by omega), _, R.set h⟩
end Sp

/-! SpH: what the bench does. -/
namespace Sp
open PySem L2 Z
variable [Rz]
variable {S : Sto} {r n0 : Nat} {ℓ : Int → Nat} {b : Be} {sk : List (Pa × Pa)} {dn : List Pa} {st : St} {c : Ca}
theorem does_eq {o : R Z.D} {x : Str × St} (h : Does o S r n0 b sk dn x) : ∃ S', o = .ok (.str x.1) S' ∧ Fr r S S' ∧ ∃ ℓ', Rep S' r n0 ℓ' b sk dn x.2 := by
  unfold Does at h
  cases o with
  | ok d S' => obtain ⟨rfl, h2, h3⟩ := h; exact ⟨S', rfl, h2, h3⟩
  | ex n fs S' => exact h.elim
  | bad => exact h.elim
theorem opens_ok (R : Rep S r n0 ℓ b sk dn st) (hZ : Sz b st) {n : Int} (h : valG st.causes n = some c) {p : Pa} {d : Int} (hd : 0 ≤ d ∧ d ≤ 60) {x : Str × St}
    (hp : (p = .hold d n ∧ x = doHold b st d n c) ∨ (∃ q, p = .pledge d n q ∧ x = doPledge b st d n q c) ∨ (∃ t, p = .move d n t ∧ x = doMove st n t c)) : Does (Pg.m_Reading_in_open [.loc r, p.D, .loc (ℓ n)] S) S r n0 b sk dn (inOpen c st x) := by
  have hcc := (R.cause h).1
  have hlt := (R.cause h).2
  have hc : S[ℓ n]? = some (.ins "Cause" c.fs) := hcc
  unfold Does Pg.m_Reading_in_open
  cases q0 : c.word.isOpen with
  | false =>
    have e : inOpen c st x = (Str.ofString "closed", st) := by simp [inOpen, q0]
    rw [e]
    simp [hc, lk_word, in_open, q0]
    exact same R
  | true =>
    have e : inOpen c st x = x := by simp [inOpen, q0]
    rw [e]
    rcases hp with ⟨rfl, rfl⟩ | ⟨q, rfl, rfl⟩ | ⟨t, rfl, rfl⟩
    · obtain ⟨S', e1, e2⟩ := does_eq (hold_ok R hZ h hd)
      simp [hc, lk_word, in_open, q0, Pa.D, Pa.row, rowD, keyD, at0, at1, x_eqSS, R.me, lr_no, e1]
      exact e2
    · obtain ⟨S', e1, e2⟩ := does_eq (pledge_ok R hZ h hd q)
      simp [hc, lk_word, in_open, q0, Pa.D, Pa.row, rowD, keyD, at0, at1, at3, x_eqSS, ofString_beq, R.me, lr_no, e1]
      exact e2
    · by_cases q1 : c.town = t
      · simp [hc, lk_word, in_open, q0, Pa.D, Pa.row, rowD, keyD, at0, at1, at3, x_eqSS, ofString_beq, lk_town, q1, doMove]
        exact same R
      · have h2 : (S.set (ℓ n) (.ins "Cause" (Ca.fs { c with town := t })))[ℓ n]? = some (.ins "Cause" (Ca.fs { c with town := t })) := at_set hc
        simp [hc, lk_word, in_open, q0, Pa.D, Pa.row, rowD, keyD, at0, at1, at3, x_eqSS, ofString_beq, lk_town, q1, doMove, fs_len, put_town, put_until, h2, setset]
        exact ⟨Fr.set (by omega), _, R.set h⟩
theorem bill_ok (R : Rep S r n0 ℓ b sk dn st) (hZ : Sz b st) {n : Int} (h : valG st.causes n = some c) {d : Int} (hd : 0 ≤ d ∧ d ≤ 60) (g : Int) : Does (Pg.m_Reading_bill [.loc r, .int d, .loc (ℓ n), .int g] S) S r n0 b sk dn (doBill b st d n g c) := by
  have hcc := (R.cause h).1
  have hlt := (R.cause h).2
  have hc : S[ℓ n]? = some (.ins "Cause" c.fs) := hcc
  have hh := hZ.hold
  have e1 := end_ok hcc (hZ.sm _ (valG_mem h)) (most := b.hold) (day := d) (by omega) (by omega) .thrown
  have hw : Wd.thrown.s = "thrown" := rfl
  have hr : putD ("word" : Str) (.str "ready") c.fs = Ca.fs { c with word := .ready } := put_word .ready
  rw [hw] at e1
  unfold Does Pg.m_Reading_bill
  by_cases q1 : g = 1
  · simp [doBill, q1, hc, fs_len, hr]
    exact ⟨Fr.set (by omega), _, R.set h⟩
  · simp [doBill, q1, hc, lk_end, R.me, lr_bench, b1, e1]
    exact ⟨Fr.set (by omega), _, R.set h⟩
theorem miss_ok (R : Rep S r n0 ℓ b sk dn st) (hZ : Sz b st) {n : Int} (h : valG st.causes n = some c) {d : Int} (hd : 0 ≤ d ∧ d ≤ 60) : Does (Pg.m_Reading_miss [.loc r, .int d, .loc (ℓ n), .int n] S) S r n0 b sk dn (doMiss b st d n c) := by
  have hcc := (R.cause h).1
  have hlt := (R.cause h).2
  have hc : S[ℓ n]? = some (.ins "Cause" c.fs) := hcc
  have hh := hZ.hold
  unfold Does Pg.m_Reading_miss
  cases q1 : c.pledger with
  | none =>
    simp [doMiss, q1, hc, lk_pledger, isN_opt]
    exact same R
  | some q =>
    have R1 : Rep (S.set (r + 4) (.lst (st.lost.map tripI ++ [.tup [.int d, .int n, .int q]]))) r n0 ℓ b sk dn { st with lost := st.lost ++ [(d, n, q)] } := R.lost (d, n, q)
    have hf1 : Fr r S (S.set (r + 4) (.lst (st.lost.map tripI ++ [.tup [.int d, .int n, .int q]]))) := Fr.set (by omega)
    have e1 := app_list (y := .tup [.int d, .int n, .int q]) R.lo (by have := hZ.n4; rw [List.length_map]; omega)
    simp [doMiss, q1, hc, lk_pledger, dIsN, Z.isNon, optD, R.me, lr_lost, isTy_list R.lo, e1, hz]
    generalize S.set (r + 4) (.lst (st.lost.map tripI ++ [.tup [.int d, .int n, .int q]])) = S1 at *
    have hc1 : S1[ℓ n]? = some (.ins "Cause" c.fs) := (R1.cause h).1
    have hme2 : (S1.set (ℓ n) (.ins "Cause" (Ca.fs { c with pledger := none })))[r]? = some (.ins "Reading" (rfs r n0 b st.strike)) := set_ne R1.me (by omega)
    have hc2 : (S1.set (ℓ n) (.ins "Cause" (Ca.fs { c with pledger := none })))[ℓ n]? = some (.ins "Cause" (Ca.fs { c with pledger := none })) := at_set hc1
    have e2 := used_ok (c := { c with pledger := none }) hc2 b.hold d
    have e3 : Ca.used { c with pledger := none } b.hold d = c.used b.hold d := rfl
    rw [e3] at e2
    simp [hc1, fs_len, put_pledger0, hc2, lk_used, hme2, lr_bench, b1, e2]
    by_cases q2 : c.used b.hold d < b.hold
    · simp [q2, Int.not_le.mpr q2, hc2, fs_len, put_since, setset]
      exact ⟨hf1.trans (Fr.set (by omega)), _, R1.set h⟩
    · simp [q2, Int.not_lt.mp q2]
      exact ⟨hf1.trans (Fr.set (by omega)), _, R1.set h⟩
theorem over_ok (R : Rep S r n0 ℓ b sk dn st) {n : Int} (h : valG st.causes n = some c) {d : Int} (ha : awayB b c d = false) (hu : ¬ c.till ≥ d) : Does (Pg.m_Reading_put_over [.loc r, .int d, .loc (ℓ n)] S) S r n0 b sk dn (doOver b st d n c) := by
  have hcc := (R.cause h).1
  have hlt := (R.cause h).2
  have hc : S[ℓ n]? = some (.ins "Cause" c.fs) := hcc
  unfold Does Pg.m_Reading_put_over
  by_cases q1 : c.puts = b.puts
  · simp [doOver, hu, q1, hc, lk_puts, R.me, lr_bench, b2]
    exact same R
  · cases e : sitOn b d with
    | none => simp [awayB, e] at ha
    | some t =>
      have hl : lastOn b d = t.2.1 := by simp [lastOn, e]
      have h2 : (S.set (ℓ n) (.ins "Cause" (Ca.fs { c with puts := c.puts + 1 })))[ℓ n]? = some (.ins "Cause" (Ca.fs { c with puts := c.puts + 1 })) := at_set hc
      have hme2 : (S.set (ℓ n) (.ins "Cause" (Ca.fs { c with puts := c.puts + 1 })))[r]? = some (.ins "Reading" (rfs r n0 b st.strike)) := set_ne R.me (by omega)
      simp [doOver, hu, q1, hc, lk_puts, R.me, lr_bench, b2, fs_len, put_puts, hme2, sitting_on_ok, e, sitD, t1, h2, put_until, setset, hl]
      exact ⟨Fr.set (by omega), _, R.set h⟩
theorem judge_ok (R : Rep S r n0 ℓ b sk dn st) (hZ : Sz b st) {n : Int} (h : valG st.causes n = some c) {d g : Int} (hd : 0 ≤ d ∧ d ≤ 60) (hg : g = 0 ∨ g = 1) (hu : ¬ c.till ≥ d) : Does (Pg.m_Reading_judge [.loc r, (Pa.judge d n g).D, .loc (ℓ n)] S) S r n0 b sk dn (doJudge b st d n g c) := by
  have hcc := (R.cause h).1
  have hlt := (R.cause h).2
  have hc : S[ℓ n]? = some (.ins "Cause" c.fs) := hcc
  have hh := hZ.hold
  have e1 := end_ok hcc (hZ.sm _ (valG_mem h)) (most := b.hold) (day := d) (by omega) (by omega) (verd g)
  have e2 := otherj_ok R n c.person c.deed
  have hD : (Pa.judge d n g).D = .tup [.int d, .str "judge", .int n, .int g] := rfl
  have e3 : ∀ S : Sto, dIxA (.lst [.str "clear", .str "guilty"]) (.int g) S = .ok (.str (verd g).s) S := fun S => by
    rcases hg with rfl | rfl
    · exact congrArg (fun o => ofO o S) (at0 (a := .str "clear") (r := [.str "guilty"]))
    · exact congrArg (fun o => ofO o S) (at1 (a := .str "clear") (b := .str "guilty") (r := []))
  have hc2 : (S.set (ℓ n) (c.fin b.hold d (verd g)).cell)[ℓ n]? = some (.ins "Cause" (c.fin b.hold d (verd g)).fs) := at_set hcc
  have hb := put_by (c := c.fin b.hold d (verd g)) (.judge d n g)
  unfold Does Pg.m_Reading_judge
  cases q1 : otherJ st n c.person c.deed with
  | true =>
    simp [hD, doJudge, hu, q1, hc, lk_person, lk_deed, R.me, lr_no, at2, e2]
    exact same R
  | false =>
    rw [hD] at hb
    simp only [x_run]
    simp [hD, doJudge, hu, q1, hc, lk_person, lk_deed, lk_end, R.me, lr_no, lr_bench, b1, at0, at2, at3, e2, hz, -x_ixAL, e3, e1, hc2, fs_len, hb, setset]
    exact ⟨Fr.set (by omega), _, R.set h⟩
end Sp

/-! SpI: by_bench and read. -/
namespace Sp
open PySem L2 Z
theorem cut_to2 {a b : Z.D} {r : List Z.D} : cutD (a :: b :: r) none (some 2) = [a, b] := by
  unfold cutD
  have e1 : HT.sIx (a :: b :: r).length (a :: b :: r).length (some 2) = min 2 _ := HT.sIx_nat _ _ 2
  have e2 : HT.sIx (a :: b :: r).length 0 none = 0 := rfl
  rw [e1, e2]
  have : min 2 (a :: b :: r).length = 2 := by simp only [List.length_cons]; omega
  rw [this]
  rfl
theorem cut_fr2 {a b : Z.D} {r : List Z.D} : cutD (a :: b :: r) (some 2) none = r := by
  unfold cutD
  have e1 : HT.sIx (a :: b :: r).length 0 (some 2) = min 2 _ := HT.sIx_nat _ _ 2
  have e2 : HT.sIx (a :: b :: r).length (a :: b :: r).length none = (a :: b :: r).length := rfl
  rw [e1, e2]
  have : min 2 (a :: b :: r).length = 2 := by simp only [List.length_cons]; omega
  rw [this]
  simp
theorem disp_ok : dispOk [((.inr "bill" : Key), Z.D.tup [.str "charged"]), (.inr "miss", .ktup [.str "charged", .str "ready"])] := by
  refine ⟨by simp, ?_⟩
  simp [ofString_inj]
theorem want_bill {S : Sto} : dLook (.dct [.inr "bill", .inr "miss"] [.tup [.str "charged"], .ktup [.str "charged", .str "ready"]]) (.str "bill") S = some (some (.tup [.str "charged"])) := by simp [valG, ofString_inj]
theorem want_miss {S : Sto} : dLook (.dct [.inr "bill", .inr "miss"] [.tup [.str "charged"], .ktup [.str "charged", .str "ready"]]) (.str "miss") S = some (some (.ktup [.str "charged", .str "ready"])) := by simp [valG, ofString_inj]
theorem want_over {S : Sto} : dLook (.dct [.inr "bill", .inr "miss"] [.tup [.str "charged"], .ktup [.str "charged", .str "ready"]]) (.str "over") S = some none := by simp [valG, ofString_inj]
theorem want_judge {S : Sto} : dLook (.dct [.inr "bill", .inr "miss"] [.tup [.str "charged"], .ktup [.str "charged", .str "ready"]]) (.str "judge") S = some none := by simp [valG, ofString_inj]
theorem isTy_dct {ks : List Key} {ds : List Z.D} {S : Sto} : isTy "dict" (.dct ks ds) S = true := rfl
variable [Rz]
variable {S : Sto} {r n0 : Nat} {ℓ : Int → Nat} {b : Be} {sk : List (Pa × Pa)} {dn : List Pa} {st : St} {c : Ca}
noncomputable def bybRest : MS := (sSeq (sIf (mB (mBin dEq (mVar 5) (mC (.str "bill")))) (sRet (mMethO "Reading" "bill" (Pg.m_Reading_bill) (mVar 0) (aCons (mVar 4) (aCons (mVar 2) (aCons (mBin dIxA (mVar 1) (mC (.int 3))) aNil))))) sNil)
  (sSeq (sIf (mB (mBin dEq (mVar 5) (mC (.str "miss")))) (sRet (mMethO "Reading" "miss" (Pg.m_Reading_miss) (mVar 0) (aCons (mVar 4) (aCons (mVar 2) (aCons (mBin dIxA (mVar 1) (mC (.int 2))) aNil))))) sNil)
  (sSeq (sIf (mB (mBin dGe (mFld "Cause" "until" (mVar 2)) (mVar 4))) (sRet (mC (.str "over"))) sNil)
  (sSeq (sIf (mB (mBin dEq (mVar 5) (mC (.str "over")))) (sRet (mMethO "Reading" "put_over" (Pg.m_Reading_put_over) (mVar 0) (aCons (mVar 4) (aCons (mVar 2) aNil)))) sNil)
  (sRet (mMethO "Reading" "judge" (Pg.m_Reading_judge) (mVar 0) (aCons (mVar 1) (aCons (mVar 2) aNil))))))))
theorem byb_eq : Pg.m_Reading_by_bench = runD 3 6 (sSeq (sTup [4, 5] (mSl (mVar 1) none (some (mC (.int 2)))))
  (sSeq (sAsg 3 (mMeth "dict" dGet2 (mDisp [((mC (.str "bill")), (mTup (aCons (mC (.str "charged")) aNil))), ((mC (.str "miss")), (mC (.ktup [.str "charged", .str "ready"])))]) (aCons (mVar 5) (aCons (mTup (aCons (mC (.str "ready")) aNil)) aNil))))
  (sSeq (sIf (mB (mBin dNotInA (mFld "Cause" "word" (mVar 2)) (mVar 3))) (sRet (mC (.str "closed"))) sNil)
  (sSeq (sIf (mT (mMethO "Reading" "is_away" (Pg.m_Reading_is_away) (mVar 0) (aCons (mVar 2) (aCons (mVar 4) aNil)))) (sRet (mC (.str "away"))) sNil)
  bybRest)))) := rfl
theorem byb_gen (R : Rep S r n0 ℓ b sk dn st) {n : Int} (h : valG st.causes n = some c) {d : Int} {w : Str} {rest : List Z.D} {o : Option Z.D} {ok : Bool} {x : Str × St} (hw : dLook (.dct [.inr "bill", .inr "miss"] [.tup [.str "charged"], .ktup [.str "charged", .str "ready"]]) (.str w) S = some o) (hin : inP (.str c.word.s) (o.getD (.tup [.str "ready"])) S = some ok)
    (k : ok = true → awayB b c d = false → wpS (bybRest [some (.loc r), some (.tup (.int d :: .str w :: rest)), some (.loc (ℓ n)), some (o.getD (.tup [.str "ready"])), some (.int d), some (.str w)] S) (fun _ _ => False) fun e S' => e = .str x.1 ∧ Fr r S S' ∧ ∃ ℓ', Rep S' r n0 ℓ' b sk dn x.2) :
    Does (Pg.m_Reading_by_bench [.loc r, .tup (.int d :: .str w :: rest), .loc (ℓ n)] S) S r n0 b sk dn (byBench b ok c d st x) := by
  have hcc := (R.cause h).1
  have hc : S[ℓ n]? = some (.ins "Cause" c.fs) := hcc
  have ea := away_ok R hcc d
  unfold Does
  rw [byb_eq]
  cases ok with
  | false =>
    rw [show byBench b false c d st x = (Str.ofString "closed", st) from rfl]
    simp [cut_to2, hz, bindT, setAll, isTy_dct, -look_dS, hc, lk_word, hw, hin]
    exact ⟨disp_ok, same R⟩
  | true =>
    cases q1 : awayB b c d with
    | true =>
      rw [show byBench b true c d st x = (Str.ofString "away", st) from if_pos q1]
      simp [cut_to2, hz, bindT, setAll, isTy_dct, -look_dS, hc, lk_word, hw, hin, R.me, lr_no, ea, q1]
      exact ⟨disp_ok, same R⟩
    | false =>
      rw [show byBench b true c d st x = x from by simp [byBench, q1]]
      simp [cut_to2, hz, bindT, setAll, isTy_dct, -look_dS, hc, lk_word, hw, hin, R.me, lr_no, ea, q1]
      exact ⟨disp_ok, wpS_imp (k rfl q1) (fun _ _ h => h.elim) fun _ _ h => h⟩
theorem byb_bill (R : Rep S r n0 ℓ b sk dn st) (hZ : Sz b st) {n : Int} (h : valG st.causes n = some c) {d : Int} (hd : 0 ≤ d ∧ d ≤ 60) (g : Int) : Does (Pg.m_Reading_by_bench [.loc r, (Pa.bill d n g).D, .loc (ℓ n)] S) S r n0 b sk dn (byBench b (c.word == .charged) c d st (doBill b st d n g c)) :=
  byb_gen (rest := [.int n, .int g]) R h want_bill (in_chT _ _) fun _ q1 => by
    obtain ⟨S', e1, e2⟩ := does_eq (bill_ok R hZ h hd g)
    unfold bybRest
    simp [x_eqSS, R.me, lr_no, at3, e1]
    exact e2
theorem byb_miss (R : Rep S r n0 ℓ b sk dn st) (hZ : Sz b st) {n : Int} (h : valG st.causes n = some c) {d : Int} (hd : 0 ≤ d ∧ d ≤ 60) : Does (Pg.m_Reading_by_bench [.loc r, (Pa.miss d n).D, .loc (ℓ n)] S) S r n0 b sk dn (byBench b c.word.isOpen c d st (doMiss b st d n c)) :=
  byb_gen (rest := [.int n]) R h want_miss (in_open _ _) fun _ q1 => by
    obtain ⟨S', e1, e2⟩ := does_eq (miss_ok R hZ h hd)
    unfold bybRest
    simp [x_eqSS, ofString_beq, R.me, lr_no, at2, e1]
    exact e2
theorem byb_over (R : Rep S r n0 ℓ b sk dn st) (hZ : Sz b st) {n : Int} (h : valG st.causes n = some c) {d : Int} (hd : 0 ≤ d ∧ d ≤ 60) : Does (Pg.m_Reading_by_bench [.loc r, (Pa.over d n).D, .loc (ℓ n)] S) S r n0 b sk dn (byBench b (c.word == .ready) c d st (doOver b st d n c)) :=
  byb_gen (rest := [.int n]) R h want_over (in_rdT _ _) fun _ q1 => by
    have hc : S[ℓ n]? = some (.ins "Cause" c.fs) := (R.cause h).1
    by_cases q2 : c.till ≥ d
    · rw [show doOver b st d n c = (Str.ofString "over", st) from if_pos q2]
      unfold bybRest
      simp [x_eqSS, ofString_beq, hc, lk_until, show d ≤ c.till from q2]
      exact same R
    · obtain ⟨S', e1, e2⟩ := does_eq (over_ok R h q1 q2)
      unfold bybRest
      simp [x_eqSS, ofString_beq, hc, lk_until, R.me, lr_no, show ¬ d ≤ c.till from q2, Int.not_le.mp (show ¬ d ≤ c.till from q2), e1]
      exact e2
theorem byb_judge (R : Rep S r n0 ℓ b sk dn st) (hZ : Sz b st) {n : Int} (h : valG st.causes n = some c) {d : Int} (hd : 0 ≤ d ∧ d ≤ 60) {g : Int} (hg : g = 0 ∨ g = 1) : Does (Pg.m_Reading_by_bench [.loc r, (Pa.judge d n g).D, .loc (ℓ n)] S) S r n0 b sk dn (byBench b (c.word == .ready) c d st (doJudge b st d n g c)) :=
  byb_gen (rest := [.int n, .int g]) R h want_judge (in_rdT _ _) fun _ q1 => by
    have hc : S[ℓ n]? = some (.ins "Cause" c.fs) := (R.cause h).1
    by_cases q2 : c.till ≥ d
    · rw [show doJudge b st d n g c = (Str.ofString "over", st) from if_pos q2]
      unfold bybRest
      simp [x_eqSS, ofString_beq, hc, lk_until, show d ≤ c.till from q2]
      exact same R
    · obtain ⟨S', e1, e2⟩ := does_eq (judge_ok R hZ h hd hg q2)
      have hD : (Pa.judge d n g).D = .tup [.int d, .str "judge", .int n, .int g] := rfl
      rw [hD] at e1
      unfold bybRest
      simp [x_eqSS, ofString_beq, hc, lk_until, R.me, lr_no, show ¬ d ≤ c.till from q2, Int.not_le.mp (show ¬ d ≤ c.till from q2), e1]
      exact e2
end Sp

/-! what each def does -/
namespace V2
open PySem L2 Z 
variable [Rz]
noncomputable def m_law_cell : List D → Sto → R D := runD 2 2 (sSeq (sIf (mB (mBin dLt (mVar 1) (mCall dLen (aCons (mVar 0) aNil)))) (sRet (mBin dIxA (mVar 0) (mVar 1))) sNil)
  (sRet (mC (.int 0))))
noncomputable def m_law_pen : List D → Sto → R D := runD 1 2 (sSeq (sAsg 1 (mCall dMax2 (aCons (mVar 0) (aCons (mBin dSub (mC (.int 0)) (mVar 0)) aNil))))
  (sRet (mLstN (aCons (mVar 1) (aCons (mCall dInt (aCons (mBin dGe (mVar 1) (mBin dPow (mC (.int 10)) (mC (.int 18)))) aNil)) aNil)))))
noncomputable def m_law_draw : List D → Sto → R D := runD 2 5 (sSeq (sIf (mB (mBin dEq (mBin dIxA (mVar 0) (mC (.int 1))) (mC (.int 1)))) (sSeq (sTup [3, 4] (mCall dDivmod (aCons (mBin dIxA (mVar 0) (mC (.int 0))) (aCons (mVar 1) aNil))))
  (sSeq (sSubA (mVar 0) (mC (.int 0)) (mVar 3))
  (sRet (mVar 4)))) sNil)
  (sSeq (sAsg 2 (mBin dMod (mBin dMul (mBin dAdd (mBin dMod (mBin dIxA (mVar 0) (mC (.int 0))) (mC (.int 2147483647))) (mC (.int 40503))) (mC (.int 69621))) (mC (.int 2147483629))))
  (sSeq (sAsg 2 (mBin dMod (mBin dAdd (mBin dMul (mVar 2) (mVar 2)) (mC (.int 7817))) (mC (.int 2147483587))))
  (sSeq (sSubA (mVar 0) (mC (.int 0)) (mBin dMod (mBin dAdd (mBin dMul (mVar 2) (mC (.int 48271))) (mC (.int 11))) (mC (.int 2147483629))))
  (sRet (mBin dMod (mBin dFdiv (mBin dIxA (mVar 0) (mC (.int 0))) (mC (.int 32))) (mVar 1)))))))
noncomputable def m_law_seat : List D → Sto → R D := runD 2 4 (sSeq (sAsg 2 (mComp (iSeq (mBin dIxA (mVar 0) (mC (.int 0)))) (.nm 3) [3] (mB (mChain dLe dLe (mBin dIxA (mVar 3) (mC (.int 0))) (mVar 1) (mBin dIxA (mVar 3) (mC (.int 1))))) (mVar 3)))
  (sRet (mIf (mB (mBin dNe (mVar 2) (mLst aNil))) (mBin dIxA (mVar 2) (mC (.int 0))) (mC .non))))
noncomputable def m_law_days : List D → Sto → R D := runD 3 4 (sSeq (sAsg 3 (mCall dList (aCons (mBin dIxA (mVar 1) (mC (.str "days"))) aNil)))
  (sSeq (sIf (mB (mBin (dIsN true) (mBin dIxA (mVar 1) (mC (.str "start"))) (mC .non))) (sAsg 3 (mBin dAdd (mVar 3) (mLstRg (mBin dIxA (mVar 1) (mC (.str "start"))) (mBin dAdd (mVar 2) (mC (.int 1)))))) sNil)
  (sRet (mSl (mVar 3) none (some (mBin dIxA (mVar 0) (mC (.int 1))))))))
noncomputable def m_law_end : List D → Sto → R D := runD 4 4 (sSeq (sTupS [.sub (mVar 1) (mC (.str "days")), .sub (mVar 1) (mC (.str "start"))] (mTup (aCons (mCall m_law_days (aCons (mVar 0) (aCons (mVar 1) (aCons (mBin dSub (mVar 2) (mC (.int 1))) aNil)))) (aCons (mC .non) aNil))))
  (sTupS [.sub (mVar 1) (mC (.str "pledge")), .sub (mVar 1) (mC (.str "word"))] (mTup (aCons (mC .non) (aCons (mVar 3) aNil)))))
noncomputable def m_law_judged : List D → Sto → R D := runD 3 5 (sSeq (sLock (mBin dIxA (mVar 0) (mC (.str "causes"))) (sFor (iItm (mBin dIxA (mVar 0) (mC (.str "causes")))) (.tp [3, 4]) (sIf (mAnd (mB (mBin dNe (mVar 3) (mVar 1))) (mAnd (mB (mBin dEq (mBin dIxA (mVar 4) (mC (.str "who"))) (mVar 2))) (mB (mBin dInA (mBin dIxA (mVar 4) (mC (.str "word"))) (mTup (aCons (mC (.str "guilty")) (aCons (mC (.str "clear")) aNil))))))) (sRet (mC (.bl true))) sNil)))
  (sRet (mC (.bl false))))
noncomputable def m_law_why_charge : List D → Sto → R D := runD 2 2 (sSeq (sIf (mB (mBin dInA (mBin dIxA (mVar 1) (mC (.int 2))) (mBin dIxA (mVar 0) (mC (.str "causes"))))) (sRet (mC (.str "again"))) sNil)
  (sSeq (sIf (mT (mCall m_law_judged (aCons (mVar 0) (aCons (mBin dIxA (mVar 1) (mC (.int 2))) (aCons (mSl (mVar 1) (some (mC (.int 3))) (some (mC (.int 5)))) aNil))))) (sRet (mC (.str "judged"))) sNil)
  (sRet (mIf (mB (mBin dInA (mSl (mVar 1) (some (mC (.int 3))) (some (mC (.int 5)))) (mBin dIxA (mVar 0) (mC (.str "pardons"))))) (mC (.str "pardoned")) (mC (.str "takes"))))))
noncomputable def m_law_why_held : List D → Sto → R D := runD 4 7 (sSeq (sAsg 4 (mCall m_law_days (aCons (mVar 0) (aCons (mVar 2) (aCons (mBin dIxA (mVar 3) (mC (.int 0))) aNil)))))
  (sSeq (sIf (mB (mBin dEq (mBin dIxA (mVar 3) (mC (.int 1))) (mC (.str "hold")))) (sSeq (sIf (mB (mBin (dIsN true) (mBin dIxA (mVar 2) (mC (.str "pledge"))) (mC .non))) (sRet (mC (.str "pledged"))) sNil)
  (sSeq (sIf (mB (mBin dInA (mBin dIxA (mVar 3) (mC (.int 0))) (mVar 4))) (sRet (mC (.str "held"))) sNil)
  (sRet (mIf (mB (mBin dEq (mCall dLen (aCons (mVar 4) aNil)) (mBin dIxA (mVar 0) (mC (.int 1))))) (mC (.str "spent")) (mC (.str "takes")))))) sNil)
  (sSeq (sIf (mB (mBin dNotInA (mBin dIxA (mVar 3) (mC (.int 0))) (mVar 4))) (sRet (mC (.str "free"))) sNil)
  (sSeq (sIf (mB (mBin dEq (mBin dIxA (mVar 3) (mC (.int 3))) (mBin dIxA (mBin dIxA (mVar 2) (mC (.str "who"))) (mC (.int 0))))) (sRet (mC (.str "self"))) sNil)
  (sSeq (sAsg 5 (mCall dLen (aCons (mLock (mBin dIxA (mVar 1) (mC (.str "causes"))) (mComp (iVal (mBin dIxA (mVar 1) (mC (.str "causes")))) (.nm 6) [6] (mB (mBin dEq (mBin dIxA (mVar 6) (mC (.str "pledge"))) (mBin dIxA (mVar 3) (mC (.int 3))))) (mC (.int 1)))) aNil)))
  (sRet (mIf (mB (mBin dEq (mVar 5) (mBin dIxA (mVar 0) (mC (.int 3))))) (mC (.str "full")) (mC (.str "takes")))))))))
noncomputable def m_law_why_last : List D → Sto → R D := runD 4 4 (sSeq (sIf (mB (mBin dEq (mBin dIxA (mVar 3) (mC (.int 1))) (mC (.str "bill")))) (sRet (mC (.str "takes"))) sNil)
  (sSeq (sIf (mB (mBin dEq (mBin dIxA (mVar 3) (mC (.int 1))) (mC (.str "miss")))) (sRet (mIf (mB (mBin (dIsN false) (mBin dIxA (mVar 2) (mC (.str "pledge"))) (mC .non))) (mC (.str "bare")) (mC (.str "takes")))) sNil)
  (sSeq (sIf (mB (mBin dEq (mBin dIxA (mVar 3) (mC (.int 1))) (mC (.str "move")))) (sRet (mIf (mB (mBin dEq (mBin dIxA (mVar 2) (mC (.str "town"))) (mBin dIxA (mVar 3) (mC (.int 3))))) (mC (.str "there")) (mC (.str "takes")))) sNil)
  (sSeq (sIf (mB (mBin dGe (mBin dIxA (mVar 2) (mC (.str "till"))) (mBin dIxA (mVar 3) (mC (.int 0))))) (sRet (mC (.str "over"))) sNil)
  (sSeq (sIf (mB (mBin dEq (mBin dIxA (mVar 3) (mC (.int 1))) (mC (.str "over")))) (sRet (mIf (mB (mBin dEq (mBin dIxA (mVar 2) (mC (.str "puts"))) (mBin dIxA (mVar 0) (mC (.int 2))))) (mC (.str "worn")) (mC (.str "takes")))) sNil)
  (sRet (mIf (mT (mCall m_law_judged (aCons (mVar 1) (aCons (mBin dIxA (mVar 3) (mC (.int 2))) (aCons (mBin dIxA (mVar 2) (mC (.str "who"))) aNil))))) (mC (.str "judged")) (mC (.str "takes")))))))))
noncomputable def m_law_why : List D → Sto → R D := runD 3 8 (sSeq (sTup [6, 7] (mSl (mVar 2) none (some (mC (.int 2)))))
  (sSeq (sIf (mB (mBin dEq (mVar 7) (mC (.str "charge")))) (sRet (mCall m_law_why_charge (aCons (mVar 1) (aCons (mVar 2) aNil)))) sNil)
  (sSeq (sIf (mB (mBin dEq (mVar 7) (mC (.str "pardon")))) (sRet (mIf (mB (mBin dInA (mSl (mVar 2) (some (mC (.int 2))) none) (mBin dIxA (mVar 1) (mC (.str "pardons"))))) (mC (.str "again")) (mC (.str "takes")))) sNil)
  (sSeq (sAsg 3 (mMeth "dict" dGet1 (mBin dIxA (mVar 1) (mC (.str "causes"))) (aCons (mBin dIxA (mVar 2) (mC (.int 2))) aNil)))
  (sSeq (sIf (mB (mBin (dIsN false) (mVar 3) (mC .non))) (sRet (mC (.str "unknown"))) sNil)
  (sSeq (sIf (mB (mBin dEq (mVar 7) (mC (.str "aside")))) (sRet (mIf (mOr (mB (mBin dInA (mVar 2) (mBin dIxA (mVar 1) (mC (.str "done"))))) (mB (mBin dInA (mBin dIxA (mVar 3) (mC (.str "word"))) (mTup (aCons (mC (.str "guilty")) (aCons (mC (.str "clear")) aNil)))))) (mC (.str "takes")) (mC (.str "unjudged")))) sNil)
  (sSeq (sAsg 4 (mMeth "dict" dGet2 (mDisp [((mC (.str "bill")), (mLst (aCons (mC (.str "charged")) aNil))), ((mC (.str "over")), (mLst (aCons (mC (.str "ready")) aNil))), ((mC (.str "judge")), (mLst (aCons (mC (.str "ready")) aNil)))]) (aCons (mVar 7) (aCons (mLst (aCons (mC (.str "charged")) (aCons (mC (.str "ready")) aNil))) aNil))))
  (sSeq (sIf (mB (mBin dNotInA (mBin dIxA (mVar 3) (mC (.str "word"))) (mVar 4))) (sRet (mC (.str "closed"))) sNil)
  (sSeq (sAsg 5 (mCall m_law_seat (aCons (mVar 0) (aCons (mVar 6) aNil))))
  (sSeq (sIf (mAnd (mB (mBin dInA (mVar 7) (mTup (aCons (mC (.str "bill")) (aCons (mC (.str "miss")) (aCons (mC (.str "over")) (aCons (mC (.str "judge")) aNil))))))) (mOr (mB (mBin (dIsN false) (mVar 5) (mC .non))) (mB (mBin dNe (mBin dIxA (mVar 5) (mC (.int 2))) (mBin dIxA (mVar 3) (mC (.str "town"))))))) (sRet (mC (.str "away"))) sNil)
  (sSeq (sIf (mB (mBin dInA (mVar 7) (mTup (aCons (mC (.str "hold")) (aCons (mC (.str "pledge")) aNil))))) (sRet (mCall m_law_why_held (aCons (mVar 0) (aCons (mVar 1) (aCons (mVar 3) (aCons (mVar 2) aNil)))))) sNil)
  (sRet (mCall m_law_why_last (aCons (mVar 0) (aCons (mVar 1) (aCons (mVar 3) (aCons (mVar 2) aNil)))))))))))))))))
noncomputable def m_law_do_held : List D → Sto → R D := runD 3 3 (sSeq (sTupS [.sub (mVar 1) (mC (.str "days")), .sub (mVar 1) (mC (.str "start"))] (mTup (aCons (mCall m_law_days (aCons (mVar 0) (aCons (mVar 1) (aCons (mBin dSub (mBin dIxA (mVar 2) (mC (.int 0))) (mC (.int 1))) aNil)))) (aCons (mC .non) aNil))))
  (sSeq (sIf (mAnd (mB (mBin dNe (mBin dIxA (mVar 2) (mC (.int 1))) (mC (.str "pledge")))) (mB (mBin dLt (mCall dLen (aCons (mBin dIxA (mVar 1) (mC (.str "days"))) aNil)) (mBin dIxA (mVar 0) (mC (.int 1)))))) (sSubA (mVar 1) (mC (.str "start")) (mBin dIxA (mVar 2) (mC (.int 0)))) sNil)
  (sSubA (mVar 1) (mC (.str "pledge")) (mIf (mB (mBin dEq (mBin dIxA (mVar 2) (mC (.int 1))) (mC (.str "pledge")))) (mBin dIxA (mVar 2) (mC (.int 3))) (mC .non)))))
noncomputable def m_law_do_else : List D → Sto → R D := runD 3 4 (sSeq (sAsg 3 (mBin dIxA (mVar 2) (mC (.int 1))))
  (sIf (mAnd (mB (mBin dEq (mVar 3) (mC (.str "bill")))) (mB (mBin dEq (mBin dIxA (mVar 2) (mC (.int 3))) (mC (.int 1))))) (sSubA (mVar 1) (mC (.str "word")) (mC (.str "ready"))) (sIf (mB (mBin dEq (mVar 3) (mC (.str "bill")))) (sExpr (mCall m_law_end (aCons (mVar 0) (aCons (mVar 1) (aCons (mBin dIxA (mVar 2) (mC (.int 0))) (aCons (mC (.str "thrown")) aNil)))))) (sIf (mB (mBin dEq (mVar 3) (mC (.str "over")))) (sTupS [.sub (mVar 1) (mC (.str "puts")), .sub (mVar 1) (mC (.str "till"))] (mTup (aCons (mBin dAdd (mBin dIxA (mVar 1) (mC (.str "puts"))) (mC (.int 1))) (aCons (mBin dIxA (mCall m_law_seat (aCons (mVar 0) (aCons (mBin dIxA (mVar 2) (mC (.int 0))) aNil))) (mC (.int 1))) aNil)))) (sIf (mB (mBin dEq (mVar 3) (mC (.str "move")))) (sTupS [.sub (mVar 1) (mC (.str "town")), .sub (mVar 1) (mC (.str "till"))] (mTup (aCons (mBin dIxA (mVar 2) (mC (.int 3))) (aCons (mUn dNeg (mC (.int 1))) aNil)))) (sSeq (sExpr (mCall m_law_end (aCons (mVar 0) (aCons (mVar 1) (aCons (mBin dIxA (mVar 2) (mC (.int 0))) (aCons (mBin dIxA (mLst (aCons (mC (.str "clear")) (aCons (mC (.str "guilty")) aNil))) (mBin dIxA (mVar 2) (mC (.int 3)))) aNil))))))
  (sSubA (mVar 1) (mC (.str "by")) (mVar 2))))))))
noncomputable def m_law_do : List D → Sto → R D := runD 3 6 (sSeq (sTup [3, 4] (mSl (mVar 2) none (some (mC (.int 2)))))
  (sIf (mB (mBin dEq (mVar 4) (mC (.str "charge")))) (sSeq (sAsg 5 (mDispN [((mC (.str "who")), (mSl (mVar 2) (some (mC (.int 3))) (some (mC (.int 5))))), ((mC (.str "town")), (mBin dIxA (mVar 2) (mC (.int 5)))), ((mC (.str "word")), (mC (.str "charged"))), ((mC (.str "start")), (mC .non)), ((mC (.str "days")), (mLst aNil)), ((mC (.str "pledge")), (mC .non))]))
  (sSeq (sExpr (mMeth "dict" dUpdate (mVar 5) (aCons (mDisp [((mC (.str "puts")), (mC (.int 0))), ((mC (.str "till")), (mUn dNeg (mC (.int 1)))), ((mC (.str "by")), (mC .non)), ((mC (.str "day")), (mVar 3))]) aNil)))
  (sSubA (mBin dIxA (mVar 1) (mC (.str "causes"))) (mBin dIxA (mVar 2) (mC (.int 2))) (mVar 5)))) (sIf (mB (mBin dEq (mVar 4) (mC (.str "pardon")))) (sSeq (sExpr (mMeth "list" dAppend (mBin dIxA (mVar 1) (mC (.str "pardons"))) (aCons (mSl (mVar 2) (some (mC (.int 2))) none) aNil)))
  (sLock (mBin dIxA (mVar 1) (mC (.str "causes"))) (sFor (iVal (mBin dIxA (mVar 1) (mC (.str "causes")))) (.nm 5) (sIf (mAnd (mB (mBin dEq (mBin dIxA (mVar 5) (mC (.str "who"))) (mSl (mVar 2) (some (mC (.int 2))) none))) (mB (mBin dInA (mBin dIxA (mVar 5) (mC (.str "word"))) (mTup (aCons (mC (.str "charged")) (aCons (mC (.str "ready")) aNil)))))) (sExpr (mCall m_law_end (aCons (mVar 0) (aCons (mVar 5) (aCons (mVar 3) (aCons (mC (.str "pardoned")) aNil)))))) sNil)))) (sIf (mB (mBin dInA (mVar 4) (mTup (aCons (mC (.str "hold")) (aCons (mC (.str "pledge")) (aCons (mC (.str "miss")) aNil)))))) (sExpr (mCall m_law_do_held (aCons (mVar 0) (aCons (mBin dIxA (mBin dIxA (mVar 1) (mC (.str "causes"))) (mBin dIxA (mVar 2) (mC (.int 2)))) (aCons (mVar 2) aNil))))) (sExpr (mCall m_law_do_else (aCons (mVar 0) (aCons (mBin dIxA (mBin dIxA (mVar 1) (mC (.str "causes"))) (mBin dIxA (mVar 2) (mC (.int 2)))) (aCons (mVar 2) aNil)))))))))
noncomputable def m_law_pass : List D → Sto → R D := runD 4 8 (sSeq (sPar [5, 6] (aCons (mDisp [((mC (.str "causes")), mDctN), ((mC (.str "pardons")), (mLstN aNil)), ((mC (.str "done")), (mVar 3))]) (aCons (mLstN aNil) aNil)))
  (sSeq (sFor (iSeq (mVar 1)) (.nm 4) (sSeq (sAsg 7 (mIf (mB (mBin dInA (mVar 4) (mVar 2))) (mC (.str "struck")) (mCall m_law_why (aCons (mVar 0) (aCons (mVar 5) (aCons (mVar 4) aNil))))))
  (sSeq (sExpr (mMeth "list" dAppend (mVar 6) (aCons (mVar 7) aNil)))
  (sSeq (sIf (mAnd (mB (mBin dEq (mVar 7) (mC (.str "takes")))) (mAnd (mB (mBin dEq (mBin dIxA (mVar 4) (mC (.int 1))) (mC (.str "aside")))) (mB (mBin dNotInA (mVar 4) (mVar 3))))) (sRet (mTup (aCons (mVar 5) (aCons (mVar 6) (aCons (mTup (aCons (mVar 4) (aCons (mBin dIxA (mBin dIxA (mBin dIxA (mVar 5) (mC (.str "causes"))) (mBin dIxA (mVar 4) (mC (.int 2)))) (mC (.str "by"))) aNil))) aNil))))) sNil)
  (sIf (mAnd (mB (mBin dEq (mVar 7) (mC (.str "takes")))) (mB (mBin dNe (mBin dIxA (mVar 4) (mC (.int 1))) (mC (.str "aside"))))) (sExpr (mCall m_law_do (aCons (mVar 0) (aCons (mVar 5) (aCons (mVar 4) aNil))))) sNil)))))
  (sRet (mTup (aCons (mVar 5) (aCons (mVar 6) (aCons (mC .non) aNil)))))))
noncomputable def m_law_read : List D → Sto → R D := runD 2 5 (sSeq (sPar [3, 4] (aCons (mLst aNil) (aCons (mLst aNil) aNil)))
  (sSeq (sAsg 2 (mCall m_law_pass (aCons (mVar 0) (aCons (mVar 1) (aCons (mVar 3) (aCons (mVar 4) aNil))))))
  (sSeq (sWhile (mB (mBin (dIsN true) (mBin dIxA (mVar 2) (mC (.int 2))) (mC .non))) (sSeq (sPar [4, 3] (aCons (mBin dAdd (mVar 4) (mLst (aCons (mBin dIxA (mBin dIxA (mVar 2) (mC (.int 2))) (mC (.int 0))) aNil))) (aCons (mBin dAdd (mVar 3) (mLst (aCons (mBin dIxA (mBin dIxA (mVar 2) (mC (.int 2))) (mC (.int 1))) aNil))) aNil)))
  (sAsg 2 (mCall m_law_pass (aCons (mVar 0) (aCons (mVar 1) (aCons (mVar 3) (aCons (mVar 4) aNil))))))))
  (sRet (mSl (mVar 2) none (some (mC (.int 2))))))))
end V2

/-! SqA: a law's own causes: dicts with texts for keys. -/
namespace Sp
open PySem L2 Z
def Ca.kv (c : Ca) : List (Key × Z.D) := [(.inr "who", .tup [.int c.person, .int c.deed]), (.inr "town", .int c.town), (.inr "word", .str c.word.s), (.inr "start", optD c.since), (.inr "days", .lst (c.past.map .int)), (.inr "pledge", optD c.pledger), (.inr "puts", .int c.puts), (.inr "till", .int c.till), (.inr "by", byD c.byp), (.inr "day", .int c.born)]
def Ca.dk (c : Ca) : C := .dK false c.kv
section
variable {c : Ca}
end
/-! ### days -/
section
variable {b : Be} {D n day : Int} {c : Ca}
end
theorem atom_ints_plain (ns : List Int) : toPyDs (ns.map Z.D.int) = some (ns.map PyData.int) := by
  induction ns with
  | nil => rfl
  | cons x xs ih => simp [toPyDs, toPyD, ih]
theorem plainI (ns : List Int) : PyData.plainAll (ns.map PyData.int) = true := by
  induction ns with
  | nil => rfl
  | cons x xs ih => simp [PyData.plainAll, PyData.plain, ih]
theorem cut_take {ds : List Z.D} {i : Int} (h : 0 ≤ i) : cutD ds none (some i) = ds.take i.toNat := by
  obtain ⟨k, rfl⟩ : ∃ k : Nat, i = k := ⟨i.toNat, by omega⟩
  unfold cutD
  have e1 : HT.sIx ds.length ds.length (some (k : Int)) = min k _ := HT.sIx_nat _ _ k
  have e2 : HT.sIx ds.length 0 none = 0 := rfl
  rw [e1, e2, Int.toNat_natCast]
  simp only [Nat.sub_zero, List.drop_zero]
  rw [← List.take_take, List.take_length]
variable [Rz]
variable {S : Sto} {b : Be} {c : Ca} {l : Nat}
end Sp

/-! StA: the older own reading: causes as dicts, days as a number. -/
namespace Sp
open PySem L2 Z
def Ca.kw (c : Ca) : List (Key × Z.D) := [(.inr "word", .str c.word.s), (.inr "person", .int c.person), (.inr "deed", .int c.deed), (.inr "town", .int c.town), (.inr "since", optD c.since), (.inr "past", .int c.spent), (.inr "pledge", optD c.pledger), (.inr "puts", .int c.puts), (.inr "until", .int c.till), (.inr "by", byD c.byp)]
def Ca.dw (c : Ca) : C := .dK false c.kw
section
variable {c : Ca}
theorem kw_word : valG c.kw (.inr ("word" : Str)) = some (.str c.word.s) := by simp [Ca.kw, valG, ofString_inj]
theorem kw_person : valG c.kw (.inr ("person" : Str)) = some (.int c.person) := by simp [Ca.kw, valG, ofString_inj]
theorem kw_deed : valG c.kw (.inr ("deed" : Str)) = some (.int c.deed) := by simp [Ca.kw, valG, ofString_inj]
theorem kw_town : valG c.kw (.inr ("town" : Str)) = some (.int c.town) := by simp [Ca.kw, valG, ofString_inj]
theorem kw_since : valG c.kw (.inr ("since" : Str)) = some (optD c.since) := by simp [Ca.kw, valG, ofString_inj]
theorem kw_past : valG c.kw (.inr ("past" : Str)) = some (.int c.spent) := by simp [Ca.kw, valG, ofString_inj]
theorem kw_pledge : valG c.kw (.inr ("pledge" : Str)) = some (optD c.pledger) := by simp [Ca.kw, valG, ofString_inj]
theorem kw_puts : valG c.kw (.inr ("puts" : Str)) = some (.int c.puts) := by simp [Ca.kw, valG, ofString_inj]
theorem kw_until : valG c.kw (.inr ("until" : Str)) = some (.int c.till) := by simp [Ca.kw, valG, ofString_inj]
theorem kw_by : valG c.kw (.inr ("by" : Str)) = some (byD c.byp) := by simp [Ca.kw, valG, ofString_inj]
theorem kw_len : c.kw.length < 16777216 := by simp [Ca.kw]
theorem pw_word (w : Wd) : putG c.kw (.inr ("word" : Str)) (.str w.s) = Ca.kw { c with word := w } := by simp [Ca.kw, putG, ofString_inj]
theorem pw_town (i : Int) : putG c.kw (.inr ("town" : Str)) (.int i) = Ca.kw { c with town := i } := by simp [Ca.kw, putG, ofString_inj]
theorem pw_since0 : putG c.kw (.inr ("since" : Str)) .non = Ca.kw { c with since := none } := by simp [Ca.kw, putG, ofString_inj, optD]
theorem pw_since (i : Int) : putG c.kw (.inr ("since" : Str)) (.int i) = Ca.kw { c with since := some i } := by simp [Ca.kw, putG, ofString_inj, optD]
theorem pw_past (i : Int) : putG c.kw (.inr ("past" : Str)) (.int i) = Ca.kw { c with spent := i } := by simp [Ca.kw, putG, ofString_inj]
theorem pw_pledge0 : putG c.kw (.inr ("pledge" : Str)) .non = Ca.kw { c with pledger := none } := by simp [Ca.kw, putG, ofString_inj, optD]
theorem pw_pledge (i : Int) : putG c.kw (.inr ("pledge" : Str)) (.int i) = Ca.kw { c with pledger := some i } := by simp [Ca.kw, putG, ofString_inj, optD]
theorem pw_puts (i : Int) : putG c.kw (.inr ("puts" : Str)) (.int i) = Ca.kw { c with puts := i } := by simp [Ca.kw, putG, ofString_inj]
theorem pw_until (i : Int) : putG c.kw (.inr ("until" : Str)) (.int i) = Ca.kw { c with till := i } := by simp [Ca.kw, putG, ofString_inj]
theorem pw_by (p : Pa) : putG c.kw (.inr ("by" : Str)) p.D = Ca.kw { c with byp := some p } := by simp [Ca.kw, putG, ofString_inj, byD]
variable {S : Sto} {l : Nat}
theorem putW (h : S[l]? = some c.dw) {x : Str} {v : Z.D} {c' : Ca} (e : putG c.kw (.inr x) v = c'.kw) : dPut (.loc l) (.str x) v S = some (S.set l c'.dw) := by
  rw [put_KS h kw_len, e]; rfl
end
variable [Rz]
variable {S : Sto} {b : Be} {c : Ca} {l : Nat}
theorem held1_ok (h : S[l]? = some c.dw) (most day : Int) : V1.m_law_held [.int most, .loc l, .int day] S = .ok (.bl (c.isHeld most day)) S := by
  have h2 : S[l]? = some (.dK false c.kw) := h
  refine wp_eq ?_
  unfold V1.m_law_held
  cases e : c.since with
  | none => simp [x_ixKS h2, kw_since, isN_opt, e, Ca.isHeld]
  | some s =>
    simp [x_ixKS h2, kw_since, kw_past, isN_opt, e, Ca.isHeld, Ca.used]
    simp [optD]
    omega
theorem free1_ok (h : S[l]? = some c.dw) (most day : Int) : V1.m_law_free [.int most, .loc l, .int day] S = .ok .non (S.set l (c.letGo most day).dw) := by
  have h2 : S[l]? = some (.dK false c.kw) := h
  refine wp_eq ?_
  unfold V1.m_law_free
  cases e : c.since with
  | none =>
    have p1 := putW h pw_since0
    have e1 : (c.letGo most day).dw = Ca.dw { c with since := none } := by simp [Ca.letGo, Ca.dw, Ca.kw, Ca.used, e]
    simp [x_ixKS h2, kw_since, isN_opt, e, p1, e1]
  | some s =>
    have e2 : c.used most day = min most (c.spent + day - s) := by simp [Ca.used, e]
    have p1 := putW h (pw_past (c.used most day))
    have h3 : (S.set l (Ca.dw { c with spent := c.used most day }))[l]? = some (Ca.dw { c with spent := c.used most day }) := at_set h
    have p2 := putW h3 pw_since0
    rw [setset] at p2
    have e1 : (c.letGo most day).dw = Ca.dw { c with spent := c.used most day, since := none } := by simp [Ca.letGo, Ca.dw, Ca.kw]
    have hm : (if c.spent + day - s < most then c.spent + day - s else most) = c.used most day := by rw [e2]; omega
    have hm2 : (if most ≤ c.spent + day - s then most else c.spent + day - s) = c.used most day := by rw [e2]; omega
    simp [x_ixKS h2, kw_since, kw_past, isN_opt, e]
    have hmn : min most (c.spent + day - s) = c.used most day := e2.symm
    simp [optD, hm, hm2, hmn, p1, p2, e1]
theorem close1_ok (h : S[l]? = some c.dw) (most day : Int) (w : Wd) : V1.m_law_close [.int most, .loc l, .int day, .str w.s] S = .ok .non (S.set l (c.fin most day w).dw) := by
  have e1 := free1_ok h most day
  have h3 : (S.set l (c.letGo most day).dw)[l]? = some (c.letGo most day).dw := at_set h
  have p2 := putW h3 pw_pledge0
  rw [setset] at p2
  have h4 : (S.set l (Ca.dw { c.letGo most day with pledger := none }))[l]? = some (Ca.dw { c.letGo most day with pledger := none }) := at_set h
  have p3 := putW h4 (pw_word w)
  rw [setset] at p3
  refine wp_eq ?_
  unfold V1.m_law_close
  simp [e1, p2, p3, hz]
  rfl
/-- no day has two sittings -/
def OneSit (b : Be) : Prop := ∀ d : Int, (b.ts.filter fun t => decide (t.1 ≤ d) && decide (d ≤ t.2.1)).length ≤ 1
def lastIn (b : Be) (d t : Int) : Option Int := match sitOn b d with
  | none => none
  | some x => if x.2.2 = t then some x.2.1 else none
omit [Rz] in
theorem lastIn_away (b : Be) (c : Ca) (d : Int) : lastIn b d c.town = if awayB b c d then none else some (lastOn b d) := by
  unfold lastIn awayB lastOn
  cases sitOn b d with
  | none => simp
  | some x => by_cases q : x.2.2 = c.town <;> simp [q]
theorem last1_ok (hs : OneSit b) (hl : b.ts.length ≤ 1000) (d t : Int) (S : Sto) : V1.m_law_last [b.D, .int d, .int t] S = .ok (optD (lastIn b d t)) S := by
  have el : ∀ τ : Tau, τ[1]? = some (some (.int d)) → τ[2]? = some (some (.int t)) → τ.length = 7 → lcL [] (.tp [4, 5, 6]) [4, 5, 6] (mAnd (mB (mChain dLe dLe (mVar 4) (mVar 1) (mVar 5))) (mB (mBin dEq (mVar 6) (mVar 2)))) (mVar 5) (b.ts.map tsD) τ S = .ok ((b.ts.filter fun x => (decide (x.1 ≤ d) && decide (d ≤ x.2.1)) && decide (x.2.2 = t)).map fun x => Z.D.int x.2.1) S := fun τ h1 h2 hl => by
    refine lc_src (g := .tp [4, 5, 6]) (keep_nil S) (fun x : Int × Int × Int => (decide (x.1 ≤ d) && decide (d ≤ x.2.1)) && decide (x.2.2 = t)) (fun x : Int × Int × Int => Z.D.int x.2.1) _ fun x hx => ?_
    match τ, hl, h1, h2 with
    | [a0, a1, a2, a3, a4, a5, a6], _, h1, h2 =>
      simp only [List.getElem?_cons_zero, List.getElem?_cons_succ, Option.some.injEq] at h1 h2
      subst h1 h2
      refine ⟨[a0, some (.int d), some (.int t), a3, some (.int x.1), some (.int x.2.1), some (.int x.2.2)], rfl, ?_, fun _ => by simp⟩
      refine wp_eq ?_
      by_cases q1 : x.1 ≤ d <;> by_cases q2 : d ≤ x.2.1 <;> by_cases q3 : x.2.2 = t <;> simp [q1, q2, q3]
  refine wp_eq ?_
  unfold V1.m_law_last
  have hz1 : b.ts.length ≤ 16777216 := by omega
  have hone := hs d
  have e2 : (b.ts.filter fun x => (decide (x.1 ≤ d) && decide (d ≤ x.2.1)) && decide (x.2.2 = t)) = (b.ts.filter fun x => decide (x.1 ≤ d) && decide (d ≤ x.2.1)).filter fun x => decide (x.2.2 = t) := by
    rw [List.filter_filter]
    congr 1
    funext x
    exact Bool.and_comm _ _
  have e3 : sitOn b d = (b.ts.filter fun x => decide (x.1 ≤ d) && decide (d ≤ x.2.1)).head? := List.head?_filter.symm
  simp [b0, hz, el, hz1]
  unfold lastIn
  rw [e2, e3]
  revert hone
  cases b.ts.filter fun x => decide (x.1 ≤ d) && decide (d ≤ x.2.1) with
  | nil => intro _; simp [optD, at0, hz]
  | cons x r =>
    intro hone
    have : r = [] := by simpa using hone
    subst this
    by_cases q : x.2.2 = t <;> simp [q, optD, at0, hz]
theorem cause1_ok (d p e t : Int) (S : Sto) : V1.m_law_cause [.int p, .int e, .int t] S = .ok (.loc S.length) (S ++ [(Ca.new d p e t).dw]) := by
  have k1 : dispOk [((.inr "word" : Key), Z.D.str "charged"), (.inr "person", .int p), (.inr "deed", .int e), (.inr "town", .int t), (.inr "since", .non), (.inr "past", .int 0)] := by
    refine ⟨by simp, ?_⟩
    simp [ofString_inj]
  have k2 : dispOk [((.inr "pledge" : Key), Z.D.non), (.inr "puts", .int 0), (.inr "until", .int (-1)), (.inr "by", .non)] := by
    refine ⟨by simp, ?_⟩
    simp [ofString_inj]
  have hty : ∀ kvs : List (Key × Z.D), isTy "dict" (.loc S.length) (S ++ [.dK false kvs]) = true := fun kvs => by simp [isTy]
  have hnew : (S ++ [C.dK false [((.inr "word" : Key), Z.D.str "charged"), (.inr "person", .int p), (.inr "deed", .int e), (.inr "town", .int t), (.inr "since", .non), (.inr "past", .int 0)]])[S.length]? = some (.dK false [((.inr "word" : Key), Z.D.str "charged"), (.inr "person", .int p), (.inr "deed", .int e), (.inr "town", .int t), (.inr "since", .non), (.inr "past", .int 0)]) := app_new
  have hm : mergeG [((.inr "word" : Key), Z.D.str "charged"), (.inr "person", .int p), (.inr "deed", .int e), (.inr "town", .int t), (.inr "since", .non), (.inr "past", .int 0)] [(.inr "pledge", .non), (.inr "puts", .int 0), (.inr "until", .int (-1)), (.inr "by", .non)] = (Ca.new d p e t).kw := by
    simp [mergeG, putG, ofString_inj, Ca.kw, Ca.new, optD, byD, Wd.s]
  have hup : dUpdate (.loc S.length) [.dct [.inr "pledge", .inr "puts", .inr "until", .inr "by"] [.non, .int 0, .int (-1), .non]] (S ++ [.dK false [((.inr "word" : Key), Z.D.str "charged"), (.inr "person", .int p), (.inr "deed", .int e), (.inr "town", .int t), (.inr "since", .non), (.inr "past", .int 0)]]) = .ok .non (S ++ [(Ca.new d p e t).dw]) := by
    unfold dUpdate
    simp only [hnew]
    refine wp_eq ?_
    simp only [List.zip_cons_cons, List.zip_nil_right, hm]
    simp [hz]
    rfl
  refine wp_eq ?_
  unfold V1.m_law_cause
  simp [hz, hty, hup]
  exact ⟨k1, k2⟩
end Sp

/-! SpN: more of the plain reading. -/
namespace Sp
open PySem L2 Z
section
variable {b : Be} {sk : List (Pa × Pa)} {dn : List Pa} {D : Int} {k : Nat} {st : St} {p : Pa}
def wordsTo (st : St) (ws : List Str) : St := { st with words := ws }
def w2 (ws : List Str) (x : Str × St) : Str × St := (x.1, wordsTo x.2 ws)
theorem fold_strike (qs : List Pa) (h : st.strike.isSome = true) : qs.foldl (step b sk dn) st = st := by
  induction qs with
  | nil => rfl
  | cons p qs ih => rw [List.foldl_cons, show step b sk dn st p = st from if_pos h]; exact ih
theorem strike_only (h : ∀ d n, p ≠ .aside d n) (hs : st.strike = none) (hS : OkS b D k st) : (rdP b dn st p).2.strike = none := by
  have := rd_strike (b := b) (sk := []) (dn := dn) (p := p) hS
  have e : rd b [] dn st p = rdP b dn st p := if_neg (by simp [valG])
  rw [e] at this
  rcases this with e | ⟨_, d, g, n, d', _, e, _⟩
  · rw [e]; exact hs
  · exact absurd e (h _ _)
end
end Sp

/-! StB: what stays true of the older reading. -/
namespace Sp
open PySem L2 Z
/-- the older reading frees a spent cause ahead of its word -/
def Sh (b : Be) (D : Int) (c c1 : Ca) : Prop := c1 = c ∨ (c1 = { c with since := none, spent := b.hold } ∧ ∀ d, D ≤ d → c.isHeld b.hold d = false ∧ c.used b.hold d = b.hold)
section
variable {b : Be} {D D' d n : Int} {c c1 : Ca}
theorem Sh.refl : Sh b D c c := .inl rfl
theorem Sh.mono (h : Sh b D c c1) (hd : D ≤ D') : Sh b D' c c1 := by
  rcases h with h | ⟨h, h2⟩
  · exact .inl h
  · exact .inr ⟨h, fun d hd' => h2 d (by omega)⟩
theorem Sh.fields (h : Sh b D c c1) : c1.word = c.word ∧ c1.person = c.person ∧ c1.deed = c.deed ∧ c1.town = c.town ∧ c1.pledger = c.pledger ∧ c1.puts = c.puts ∧ c1.till = c.till ∧ c1.byp = c.byp := by
  rcases h with rfl | ⟨rfl, _⟩ <;> exact ⟨rfl, rfl, rfl, rfl, rfl, rfl, rfl, rfl⟩
theorem Sh.held (h : Sh b D c c1) (hd : D ≤ d) : c1.isHeld b.hold d = c.isHeld b.hold d := by
  rcases h with rfl | ⟨rfl, h2⟩
  · rfl
  · rw [(h2 d hd).1]; rfl
theorem Sh.used (h : Sh b D c c1) (hd : D ≤ d) : c1.used b.hold d = c.used b.hold d := by
  rcases h with rfl | ⟨rfl, h2⟩
  · rfl
  · rw [(h2 d hd).2]; rfl
theorem Sh.letGo (h : Sh b D c c1) (hd : D ≤ d) : (c1.letGo b.hold d).dw = (c.letGo b.hold d).dw := by
  have e := h.used hd
  obtain ⟨e1, e2, e3, e4, e5, e6, e7, e8⟩ := h.fields
  simp [Ca.letGo, Ca.dw, Ca.kw, e, e1, e2, e3, e4, e5, e6, e7, e8]
theorem Sh.fin (h : Sh b D c c1) (hd : D ≤ d) (w : Wd) : (c1.fin b.hold d w).dw = (c.fin b.hold d w).dw := by
  have e := h.used hd
  obtain ⟨e1, e2, e3, e4, e5, e6, e7, e8⟩ := h.fields
  simp [Ca.fin, Ca.letGo, Ca.dw, Ca.kw, e, e1, e2, e3, e4, e5, e6, e7, e8]
theorem Sh.tell (h : Sh b D c c1) (hc : OkC b D n c) (hq : c.pledger.isSome = true) : c1 = c := by
  rcases h with rfl | ⟨rfl, h2⟩
  · rfl
  · have hn : c.since = none := by
      cases es : c.since with
      | none => rfl
      | some s => have := (hc.si s es).2.2.2; rw [this] at hq; simp at hq
    have := (h2 D (Int.le_refl _)).2
    simp only [Ca.used, hn] at this
    cases c
    simp only at hn this
    rw [hn, this]
theorem used_free (hn : c.since = none) : c.used b.hold d = c.spent := by simp [Ca.used, hn]
/-- spent on a day: spent from then on -/
theorem Sh.spent (h : Sh b D c c1) (hc : OkC b D n c) (hd : D ≤ d) (hh : c.isHeld b.hold d = false) (hu : c.used b.hold d = b.hold) : ∃ c2, (c1.letGo b.hold d).dw = c2.dw ∧ Sh b d c c2 := by
  refine ⟨{ c with since := none, spent := b.hold }, ?_, .inr ⟨rfl, fun d' hd' => ?_⟩⟩
  · rw [h.letGo hd]
    simp [Ca.letGo, Ca.dw, Ca.kw, hu]
  · unfold Ca.isHeld
    cases e : c.since with
    | none => rw [used_free e] at hu ⊢; simp [hu]
    | some s =>
      have e1 : c.used b.hold d = min b.hold (c.spent + d - s) := by simp [Ca.used, e]
      have e2 : c.used b.hold d' = min b.hold (c.spent + d' - s) := by simp [Ca.used, e]
      have : c.used b.hold d' = b.hold := by omega
      simp [this]
/-- other fields changed -/
theorem Sh.alike (h : Sh b D c c1) (f : Ca → Ca) (h1 : ∀ c : Ca, (f c).since = c.since ∧ (f c).spent = c.spent) (h2 : ∀ (c : Ca) o i, f { c with since := o, spent := i } = { f c with since := o, spent := i }) : Sh b D (f c) (f c1) := by
  rcases h with rfl | ⟨rfl, h3⟩
  · exact .inl rfl
  · refine .inr ⟨h2 _ _ _, fun d hd => ?_⟩
    have := h3 d hd
    unfold Ca.isHeld Ca.used at this ⊢
    rw [(h1 c).1, (h1 c).2]
    exact this
end
/-! ### pledges never above what the bench allows -/
def PlB (b : Be) (st : St) : Prop := ∀ q, (pledgeN st q : Int) ≤ b.pledges
variable [Rz]
section
variable {b : Be} {st : St} {n q : Int} {c c' : Ca}
def plN (cs : List (Int × Ca)) (q : Int) : Nat := (cs.filter fun x => decide (x.2.pledger = some q)).length
theorem plN_eq : pledgeN st q = plN st.causes q := rfl
theorem plN_app (as bs : List (Int × Ca)) : plN (as ++ bs) q = plN as q + plN bs q := by simp [plN]
theorem plN_cons (x : Int × Ca) (bs : List (Int × Ca)) : plN (x :: bs) q = (if x.2.pledger = some q then 1 else 0) + plN bs q := by
  unfold plN
  rw [List.filter_cons]
  by_cases h : x.2.pledger = some q
  · simp [h]; omega
  · simp [h]
theorem split_at {cs : List (Int × Ca)} (h : valG cs n = some c) : ∃ pre as, cs = pre ++ (n, c) :: as := by
  obtain ⟨pre, as, e⟩ := List.append_of_mem (valG_mem h)
  exact ⟨pre, as, e⟩
theorem plN_set {cs : List (Int × Ca)} (hn : (cs.map (·.1)).Nodup) (h : valG cs n = some c) : plN (setC cs n c') q + (if c.pledger = some q then 1 else 0) = plN cs q + (if c'.pledger = some q then 1 else 0) := by
  obtain ⟨pre, as, rfl⟩ := split_at h
  rw [setC_mid hn, plN_app, plN_app, plN_cons, plN_cons]
  simp only
  omega
theorem PlB.le (h : PlB b st) (hn : (st.causes.map (·.1)).Nodup) (hv : valG st.causes n = some c) (hc : ∀ q, c'.pledger = some q → c.pledger = some q ∨ (pledgeN st q : Int) < b.pledges) : PlB b (st.setC n c') := by
  intro q
  have e := plN_set (q := q) (c' := c') hn hv
  have h1 := h q
  rw [plN_eq] at h1 ⊢
  show (plN (setC st.causes n c') q : Int) ≤ _
  by_cases e1 : c'.pledger = some q
  · rcases hc q e1 with e2 | e2
    · rw [if_pos e1, if_pos e2] at e; omega
    · rw [if_pos e1] at e
      rw [plN_eq] at e2
      split at e <;> omega
  · rw [if_neg e1] at e
    split at e <;> omega
theorem PlB.same (h : PlB b st) {st' : St} (e : st'.causes = st.causes) : PlB b st' := fun q => by
  have := h q
  rw [plN_eq] at this ⊢
  rw [e]; exact this
end
/-- a verdict is by a paper that is not struck -/
def ByS (sk : List (Pa × Pa)) (st : St) : Prop := ∀ x ∈ st.causes, ∀ j, x.2.byp = some j → valG sk j = none
section
variable {b : Be} {sk : List (Pa × Pa)} {dn : List Pa} {st : St} {n : Int} {c c' : Ca} {D : Int} {k : Nat} {p : Pa}
theorem ByS.set (h : ByS sk st) (hv : valG st.causes n = some c) (hc : ∀ j, c'.byp = some j → c.byp = some j ∨ valG sk j = none) : ByS sk (st.setC n c') := by
  intro x hx j hj
  rcases mem_set hx with ⟨e1, e2, _⟩ | ⟨e1, e2⟩
  · rw [e2] at hj
    rcases hc j hj with h1 | h1
    · exact h _ (valG_mem hv) j h1
    · exact h1
  · exact h x e2 j hj
def Both (b : Be) (sk : List (Pa × Pa)) (st : St) : Prop := PlB b st ∧ ByS sk st
theorem Both.set (h : Both b sk st) (hn : (st.causes.map (·.1)).Nodup) (hv : valG st.causes n = some c) (h1 : ∀ q, c'.pledger = some q → c.pledger = some q ∨ (pledgeN st q : Int) < b.pledges) (h2 : ∀ j, c'.byp = some j → c.byp = some j ∨ valG sk j = none) : Both b sk (st.setC n c') := ⟨h.1.le hn hv h1, h.2.set hv h2⟩
theorem Both.same (h : Both b sk st) {st' : St} (e : st'.causes = st.causes) : Both b sk st' := ⟨h.1.same e, fun x hx => h.2 x (e ▸ hx)⟩
theorem withc_b {f : Ca → Str × St} (h : Both b sk st) (hf : ∀ c, valG st.causes n = some c → Both b sk (f c).2) : Both b sk (withC st n f).2 := by
  unfold withC
  split
  · exact h
  · rename_i c e; exact hf c e
theorem open_b {x : Str × St} (h : Both b sk st) (hf : c.word.isOpen = true → Both b sk x.2) : Both b sk (inOpen c st x).2 := by
  unfold inOpen
  split
  · rename_i e; exact hf e
  · exact h
theorem bench_b {ok : Bool} {d : Int} {x : Str × St} (h : Both b sk st) (hf : Both b sk x.2) : Both b sk (byBench b ok c d st x).2 := by
  unfold byBench
  split
  · split
    · exact h
    · exact hf
  · exact h
theorem rdP_b (h : Both b sk st) (hS : OkS b D k st) (hB : OkB b) (hp : valG sk p = none) : Both b sk (rdP b dn st p).2 := by
  have hn := hS.nd
  cases p with
  | charge d n q e t =>
    show Both b sk (doCharge st d n q e t).2
    unfold doCharge
    split
    · exact h
    split
    · exact h
    split
    · exact h
    · refine ⟨fun q' => ?_, fun x hx j hj => ?_⟩
      · have h1 := h.1 q'
        rw [plN_eq] at h1 ⊢
        show (plN (st.causes ++ [(n, Ca.new d q e t)]) q' : Int) ≤ _
        rw [plN_app, plN_cons]
        simp [Ca.new, plN]
        exact h1
      · rcases List.mem_append.mp hx with hx | hx
        · exact h.2 x hx j hj
        · simp only [List.mem_singleton] at hx; subst hx; cases hj
  | pardon d q e =>
    show Both b sk (doPardon b st d q e).2
    unfold doPardon
    split
    · exact h
    · refine ⟨fun q' => ?_, fun x hx j hj => ?_⟩
      · have h1 := h.1 q'
        rw [plN_eq] at h1 ⊢
        show (plN (st.causes.map fun x => (x.1, pardC b.hold d q e x.2)) q' : Int) ≤ _
        have : ∀ cs : List (Int × Ca), plN (cs.map fun x => (x.1, pardC b.hold d q e x.2)) q' ≤ plN cs q' := by
          intro cs
          induction cs with
          | nil => exact Nat.le_refl _
          | cons x cs ih =>
            rw [List.map_cons, plN_cons, plN_cons]
            have : (if (pardC b.hold d q e x.2).pledger = some q' then 1 else 0) ≤ (if x.2.pledger = some q' then 1 else 0) := by
              unfold pardC
              split
              · rw [if_neg (by simp [Ca.fin])]; exact Nat.zero_le _
              · exact Nat.le_refl _
            simp only
            omega
        have := this st.causes
        omega
      · obtain ⟨y, hy, rfl⟩ := List.mem_map.mp hx
        have : (pardC b.hold d q e y.2).byp = y.2.byp := by unfold pardC; split <;> rfl
        simp only [this] at hj
        exact h.2 y hy j hj
  | aside d n =>
    refine withc_b h fun c hc => ?_
    unfold doAside
    split
    · exact h
    split
    · exact h
    · exact h.same rfl
  | hold d n =>
    refine withc_b h fun c hc => open_b h fun _ => ?_
    unfold doHold
    split
    · exact h
    split
    · exact h
    split
    · exact h
    · exact h.set hn hc (fun q hq => .inl hq) (fun j hj => .inl hj)
  | pledge d n q =>
    refine withc_b h fun c hc => open_b h fun _ => ?_
    unfold doPledge
    split
    · exact h
    split
    · exact h
    split
    · exact h
    · rename_i hne
      refine h.set hn hc (fun q' hq => .inr ?_) (fun j hj => .inl hj)
      cases hq
      have := h.1 q
      omega
  | move d n t =>
    refine withc_b h fun c hc => open_b h fun _ => ?_
    unfold doMove
    split
    · exact h
    · exact h.set hn hc (fun q hq => .inl hq) (fun j hj => .inl hj)
  | bill d n g =>
    refine withc_b h fun c hc => bench_b h ?_
    unfold doBill
    refine h.set hn hc (fun q hq => ?_) (fun j hj => ?_)
    · split at hq
      · exact .inl hq
      · cases hq
    · split at hj
      · exact .inl hj
      · exact .inl hj
  | miss d n =>
    refine withc_b h fun c hc => bench_b h ?_
    unfold doMiss
    split
    · exact h
    · exact (h.same (st' := { st with lost := _ }) rfl).set hn hc (fun q hq => by cases hq) (fun j hj => .inl hj)
  | over d n =>
    refine withc_b h fun c hc => bench_b h ?_
    unfold doOver
    split
    · exact h
    split
    · exact h
    · exact h.set hn hc (fun q hq => .inl hq) (fun j hj => .inl hj)
  | judge d n g =>
    refine withc_b h fun c hc => bench_b h ?_
    unfold doJudge
    split
    · exact h
    split
    · exact h
    · refine h.set hn hc (fun q hq => by cases hq) (fun j hj => .inr ?_)
      cases hj
      exact hp
theorem step_b (h : Both b sk st) (hS : OkS b D k st) (hB : OkB b) : Both b sk (step b sk dn st p) := by
  unfold step
  split
  · exact h
  · unfold rd
    split
    · exact h.same rfl
    · rename_i hp
      exact (rdP_b h hS hB (by simpa using hp)).same rfl
end
end Sp

/-! SqB: a law's own reading: why a paper does not take. -/
namespace Sp
open PySem L2 Z
def stD (c0 : Nat) (dv : Z.D) : Z.D := .dct [.inr "causes", .inr "pardons", .inr "done"] [.loc c0, .loc (c0 + 1), dv]
structure RepL (S : Sto) (c0 : Nat) (ℓ : Int → Nat) (st : St) : Prop where
  ca : S[c0]? = some (.dK false (caD ℓ st.causes))
  pa : S[c0 + 1]? = some (.lst (st.pardons.map pairI))
  wo : S[c0 + 2]? = some (.lst (st.words.map .str))
  ce : ∀ x ∈ st.causes, S[ℓ x.1]? = some x.2.dk ∧ c0 + 2 < ℓ x.1
  inj : ∀ x ∈ st.causes, ∀ y ∈ st.causes, ℓ x.1 = ℓ y.1 → x.1 = y.1
  nd : (st.causes.map (·.1)).Nodup
/-- the law's list holds what is done -/
def Holds (dv : Z.D) (dn : List Pa) : Prop := ∀ p S, inP (Pa.D p) dv S = some (decide (p ∈ dn))
section
variable {S : Sto} {c0 : Nat} {ℓ : Int → Nat} {st : St} {c c' : Ca} {n : Int}
theorem RepL.cause (R : RepL S c0 ℓ st) (h : valG st.causes n = some c) : S[ℓ n]? = some c.dk ∧ c0 + 2 < ℓ n := R.ce (n, c) (valG_mem h)
theorem RepL.set (R : RepL S c0 ℓ st) (h : valG st.causes n = some c) : RepL (S.set (ℓ n) c'.dk) c0 ℓ (st.setC n c') := by
  have hc := R.cause h
  have hm := valG_mem h
  exact {
    ca := by
      show _ = some (C.dK false (caD ℓ (setC st.causes n c')))
      rw [caD_set]; exact set_ne R.ca (by omega)
    pa := set_ne R.pa (by omega)
    wo := set_ne R.wo (by omega)
    ce := fun x hx => by
      rcases mem_set hx with ⟨e1, e2, _⟩ | ⟨e1, e2⟩
      · rw [e1, e2]; exact ⟨at_set hc.1, hc.2⟩
      · exact ⟨set_ne (R.ce x e2).1 (fun e => e1 (R.inj x e2 (n, c) hm e.symm)), (R.ce x e2).2⟩
    inj := fun x hx y hy e => by
      rcases mem_set hx with ⟨e1, _, c1, hc1⟩ | ⟨e1, e2⟩ <;> rcases mem_set hy with ⟨g1, _, c2, hc2⟩ | ⟨g1, g2⟩
      · rw [e1, g1]
      · rw [e1] at e ⊢; exact R.inj _ hc1 y g2 e
      · rw [g1] at e ⊢; exact R.inj x e2 _ hc2 e
      · exact R.inj x e2 y g2 e
    nd := by show ((setC st.causes n c').map (·.1)).Nodup; rw [keys_set]; exact R.nd }
theorem RepL.words (R : RepL S c0 ℓ st) (w : Str) : RepL (S.set (c0 + 2) (.lst (st.words.map .str ++ [.str w]))) c0 ℓ { st with words := st.words ++ [w] } where
  ca := set_ne R.ca (by omega)
  pa := set_ne R.pa (by omega)
  wo := by rw [at_set R.wo]; simp
  ce := fun x hx => ⟨set_ne (R.ce x hx).1 (by have := (R.ce x hx).2; omega), (R.ce x hx).2⟩
  inj := R.inj
  nd := R.nd
theorem RepL.pard (R : RepL S c0 ℓ st) (w : Int × Int) : RepL (S.set (c0 + 1) (.lst (st.pardons.map pairI ++ [pairI w]))) c0 ℓ { st with pardons := st.pardons ++ [w] } where
  ca := set_ne R.ca (by omega)
  pa := by rw [at_set R.pa]; simp
  wo := set_ne R.wo (by omega)
  ce := fun x hx => ⟨set_ne (R.ce x hx).1 (by have := (R.ce x hx).2; omega), (R.ce x hx).2⟩
  inj := R.inj
  nd := R.nd
theorem RepL.same (R : RepL S c0 ℓ st) {st' : St} (h1 : st'.causes = st.causes) (h2 : st'.pardons = st.pardons) (h3 : st'.words = st.words) : RepL S c0 ℓ st' :=
  ⟨h1 ▸ R.ca, h2 ▸ R.pa, h3 ▸ R.wo, h1 ▸ R.ce, h1 ▸ R.inj, h1 ▸ R.nd⟩
/-- a new cause, its cell at the end -/
theorem RepL.add (R : RepL S c0 ℓ st) (h : valG st.causes n = none) : RepL ((S ++ [c.dk]).set c0 (.dK false (caD ℓ st.causes ++ [(.inl n, .loc S.length)]))) c0 (fun k => if k = n then S.length else ℓ k) { st with causes := st.causes ++ [(n, c)] } := by
  have hn := valG_none_iff.mp h
  have hlen : c0 + 2 < S.length := lt_of_at R.wo
  have el : caD (fun k => if k = n then S.length else ℓ k) st.causes = caD ℓ st.causes := by
    unfold caD
    apply List.map_congr_left
    intro x hx
    simp only [hn x hx, if_false]
  have hce : ∀ x ∈ st.causes, ℓ x.1 < S.length := fun x hx => lt_of_at (R.ce x hx).1
  exact {
    ca := by
      rw [at_set (app_at R.ca)]
      show _ = some (C.dK false (caD _ (st.causes ++ [(n, c)])))
      have : caD (fun k => if k = n then S.length else ℓ k) (st.causes ++ [(n, c)]) = caD (fun k => if k = n then S.length else ℓ k) st.causes ++ [(.inl n, .loc S.length)] := by simp [caD]
      rw [this, el]
    pa := set_ne (app_at R.pa) (by omega)
    wo := set_ne (app_at R.wo) (by omega)
    ce := fun x hx => by
      rcases List.mem_append.mp hx with hx | hx
      · simp only [hn x hx, if_false]
        exact ⟨set_ne (app_at (R.ce x hx).1) (by have := (R.ce x hx).2; omega), (R.ce x hx).2⟩
      · simp only [List.mem_singleton] at hx
        subst hx
        simp only [if_true]
        exact ⟨set_ne app_new (by omega), hlen⟩
    inj := fun x hx y hy e => by
      simp only [List.mem_append, List.mem_singleton] at hx hy
      rcases hx with hx | rfl <;> rcases hy with hy | rfl
      · simp only [hn x hx, hn y hy, if_false] at e; exact R.inj x hx y hy e
      · simp only [hn x hx, if_false, if_true] at e; have := hce x hx; omega
      · simp only [hn y hy, if_false, if_true] at e; have := hce y hy; omega
      · rfl
    nd := by
      show ((st.causes ++ [(n, c)]).map (·.1)).Nodup
      rw [List.map_append, List.nodup_append]
      refine ⟨R.nd, by simp, ?_⟩
      intro a ha b hb
      obtain ⟨x, hx, rfl⟩ := List.mem_map.mp ha
      simp only [List.map_cons, List.map_nil, List.mem_singleton] at hb
      subst hb
      exact hn x hx }
end
variable [Rz]
variable {S : Sto} {c0 : Nat} {ℓ : Int → Nat} {b : Be} {dn : List Pa} {dv : Z.D} {st : St} {c : Ca}
theorem pairs_items (cs : List (Int × Ca)) : (caD ℓ cs).map pairD = cs.map fun x => .tup [.int x.1, .loc (ℓ x.1)] := by
  unfold caD; rw [List.map_map]; rfl
theorem pairs_vals (cs : List (Int × Ca)) : (caD ℓ cs).map (·.2) = cs.map fun x => .loc (ℓ x.1) := by
  unfold caD; rw [List.map_map]; rfl
end Sp

/-! StC: the store of the older reading; charge, pardon. -/
namespace Sp
open PySem L2 Z
variable [Rz]
structure RepV (S : Sto) (c0 : Nat) (ℓ : Int → Nat) (b : Be) (D : Int) (st : St) : Prop where
  ca : S[c0]? = some (.dK false (caD ℓ st.causes))
  pa : S[c0 + 1]? = some (.lst (st.pardons.map pairI))
  wo : S[c0 + 2]? = some (.lst (st.words.map .str))
  lo : S[c0 + 3]? = some (.lst (st.lost.map tripI))
  ce : ∀ x ∈ st.causes, (∃ c1 : Ca, S[ℓ x.1]? = some c1.dw ∧ Sh b D x.2 c1) ∧ c0 + 3 < ℓ x.1
  inj : ∀ x ∈ st.causes, ∀ y ∈ st.causes, ℓ x.1 = ℓ y.1 → x.1 = y.1
  nd : (st.causes.map (·.1)).Nodup
section
variable {S : Sto} {c0 : Nat} {ℓ : Int → Nat} {st : St} {b : Be} {c c' c1 : Ca} {n D D' : Int}
theorem ce_set {cs : List (Int × Ca)} {l : Nat} {cc : C} (h : ∀ x ∈ cs, (∃ c1 : Ca, S[ℓ x.1]? = some c1.dw ∧ Sh b D x.2 c1) ∧ c0 + 3 < ℓ x.1) (hl : l ≤ c0 + 3) : ∀ x ∈ cs, (∃ c1 : Ca, (S.set l cc)[ℓ x.1]? = some c1.dw ∧ Sh b D x.2 c1) ∧ c0 + 3 < ℓ x.1 := fun x hx => by
  obtain ⟨⟨c1, h1, h2⟩, h3⟩ := h x hx
  exact ⟨⟨c1, set_ne h1 (by omega), h2⟩, h3⟩
theorem RepV.cause (R : RepV S c0 ℓ b D st) (h : valG st.causes n = some c) : ∃ c1 : Ca, S[ℓ n]? = some c1.dw ∧ Sh b D c c1 ∧ c0 + 3 < ℓ n := by
  obtain ⟨⟨c1, h1, h2⟩, h3⟩ := R.ce (n, c) (valG_mem h)
  exact ⟨c1, h1, h2, h3⟩
theorem RepV.mono (R : RepV S c0 ℓ b D st) (hd : D ≤ D') : RepV S c0 ℓ b D' st :=
  { R with
    ce := fun x hx => by
      obtain ⟨⟨c1, h1, h2⟩, h3⟩ := R.ce x hx
      exact ⟨⟨c1, h1, h2.mono hd⟩, h3⟩ }
theorem RepV.set (R : RepV S c0 ℓ b D st) (h : valG st.causes n = some c) (hs : Sh b D c' c1) : RepV (S.set (ℓ n) c1.dw) c0 ℓ b D (st.setC n c') := by
  obtain ⟨c2, hc1, _, hlt⟩ := R.cause h
  have hm := valG_mem h
  exact {
    ca := by
      show _ = some (C.dK false (caD ℓ (setC st.causes n c')))
      rw [caD_set]; exact set_ne R.ca (by omega)
    pa := set_ne R.pa (by omega)
    wo := set_ne R.wo (by omega)
    lo := set_ne R.lo (by omega)
    ce := fun x hx => by
      rcases mem_set hx with ⟨e1, e2, _⟩ | ⟨e1, e2⟩
      · rw [e1, e2]; exact ⟨⟨c1, at_set hc1, hs⟩, hlt⟩
      · obtain ⟨⟨c3, h1, h2⟩, h3⟩ := R.ce x e2
        exact ⟨⟨c3, set_ne h1 (fun e => e1 (R.inj x e2 (n, c) hm e.symm)), h2⟩, h3⟩
    inj := fun x hx y hy e => by
      rcases mem_set hx with ⟨e1, _, c1, hc1⟩ | ⟨e1, e2⟩ <;> rcases mem_set hy with ⟨g1, _, c2, hc2⟩ | ⟨g1, g2⟩
      · rw [e1, g1]
      · rw [e1] at e ⊢; exact R.inj _ hc1 y g2 e
      · rw [g1] at e ⊢; exact R.inj x e2 _ hc2 e
      · exact R.inj x e2 y g2 e
    nd := by show ((setC st.causes n c').map (·.1)).Nodup; rw [keys_set]; exact R.nd }
theorem setC_self {cs : List (Int × Ca)} (hn : (cs.map (·.1)).Nodup) (h : valG cs n = some c) : setC cs n c = cs := by
  obtain ⟨pre, as, rfl⟩ := split_at h
  exact setC_mid hn
theorem RepV.upd (R : RepV S c0 ℓ b D st) (h : valG st.causes n = some c) (hs : Sh b D c c1) : RepV (S.set (ℓ n) c1.dw) c0 ℓ b D st := by
  have := R.set h hs
  unfold St.setC at this
  rwa [setC_self R.nd h] at this
theorem RepV.words (R : RepV S c0 ℓ b D st) (w : Str) : RepV (S.set (c0 + 2) (.lst (st.words.map .str ++ [.str w]))) c0 ℓ b D { st with words := st.words ++ [w] } where
  ca := set_ne R.ca (by omega)
  pa := set_ne R.pa (by omega)
  wo := by rw [at_set R.wo]; simp
  lo := set_ne R.lo (by omega)
  ce := ce_set R.ce (by omega)
  inj := R.inj
  nd := R.nd
theorem RepV.pard (R : RepV S c0 ℓ b D st) (w : Int × Int) : RepV (S.set (c0 + 1) (.lst (st.pardons.map pairI ++ [pairI w]))) c0 ℓ b D { st with pardons := st.pardons ++ [w] } where
  ca := set_ne R.ca (by omega)
  pa := by rw [at_set R.pa]; simp
  wo := set_ne R.wo (by omega)
  lo := set_ne R.lo (by omega)
  ce := ce_set R.ce (by omega)
  inj := R.inj
  nd := R.nd
theorem RepV.lost (R : RepV S c0 ℓ b D st) (w : Int × Int × Int) : RepV (S.set (c0 + 3) (.lst (st.lost.map tripI ++ [tripI w]))) c0 ℓ b D { st with lost := st.lost ++ [w] } where
  ca := set_ne R.ca (by omega)
  pa := set_ne R.pa (by omega)
  wo := set_ne R.wo (by omega)
  lo := by rw [at_set R.lo]; simp
  ce := ce_set R.ce (by omega)
  inj := R.inj
  nd := R.nd
theorem RepV.same (R : RepV S c0 ℓ b D st) {st' : St} (h1 : st'.causes = st.causes) (h2 : st'.pardons = st.pardons) (h3 : st'.words = st.words) (h4 : st'.lost = st.lost) : RepV S c0 ℓ b D st' :=
  ⟨h1 ▸ R.ca, h2 ▸ R.pa, h3 ▸ R.wo, h4 ▸ R.lo, h1 ▸ R.ce, h1 ▸ R.inj, h1 ▸ R.nd⟩
/-- a new cause, its cell at the end -/
theorem RepV.add (R : RepV S c0 ℓ b D st) (h : valG st.causes n = none) : RepV ((S ++ [c.dw]).set c0 (.dK false (caD ℓ st.causes ++ [(.inl n, .loc S.length)]))) c0 (fun k => if k = n then S.length else ℓ k) b D { st with causes := st.causes ++ [(n, c)] } := by
  have hn := valG_none_iff.mp h
  have hlen : c0 + 3 < S.length := lt_of_at R.lo
  have el : caD (fun k => if k = n then S.length else ℓ k) st.causes = caD ℓ st.causes := by
    unfold caD
    apply List.map_congr_left
    intro x hx
    simp only [hn x hx, if_false]
  have hce : ∀ x ∈ st.causes, ℓ x.1 < S.length := fun x hx => by
    obtain ⟨⟨c1, h1, _⟩, _⟩ := R.ce x hx
    exact lt_of_at h1
  exact {
    ca := by
      rw [at_set (app_at R.ca)]
      show _ = some (C.dK false (caD _ (st.causes ++ [(n, c)])))
      have : caD (fun k => if k = n then S.length else ℓ k) (st.causes ++ [(n, c)]) = caD (fun k => if k = n then S.length else ℓ k) st.causes ++ [(.inl n, .loc S.length)] := by simp [caD]
      rw [this, el]
    pa := set_ne (app_at R.pa) (by omega)
    wo := set_ne (app_at R.wo) (by omega)
    lo := set_ne (app_at R.lo) (by omega)
    ce := fun x hx => by
      rcases List.mem_append.mp hx with hx | hx
      · simp only [hn x hx, if_false]
        obtain ⟨⟨c1, h1, h2⟩, h3⟩ := R.ce x hx
        exact ⟨⟨c1, set_ne (app_at h1) (by omega), h2⟩, h3⟩
      · simp only [List.mem_singleton] at hx
        subst hx
        simp only [if_true]
        exact ⟨⟨c, set_ne app_new (by omega), Sh.refl⟩, hlen⟩
    inj := fun x hx y hy e => by
      simp only [List.mem_append, List.mem_singleton] at hx hy
      rcases hx with hx | rfl <;> rcases hy with hy | rfl
      · simp only [hn x hx, hn y hy, if_false] at e; exact R.inj x hx y hy e
      · simp only [hn x hx, if_false, if_true] at e; have := hce x hx; omega
      · simp only [hn y hy, if_false, if_true] at e; have := hce y hy; omega
      · rfl
    nd := by
      show ((st.causes ++ [(n, c)]).map (·.1)).Nodup
      rw [List.map_append, List.nodup_append]
      refine ⟨R.nd, by simp, ?_⟩
      intro a ha b hb
      obtain ⟨x, hx, rfl⟩ := List.mem_map.mp ha
      simp only [List.map_cons, List.map_nil, List.mem_singleton] at hb
      subst hb
      exact hn x hx }
end
variable {S : Sto} {c0 : Nat} {ℓ : Int → Nat} {b : Be} {sk : List (Pa × Pa)} {dn : List Pa} {st : St} {c c1 : Ca} {D d n : Int} {k : Nat}
def Does1 (o : R Z.D) (S : Sto) (c0 : Nat) (b : Be) (D : Int) (x : Str × St) : Prop := ∃ S' ℓ', o = .ok (.str x.1) S' ∧ Fr c0 S S' ∧ RepV S' c0 ℓ' b D x.2
omit [Rz] in
theorem Does1.of {o : R Z.D} {S : Sto} {x : Str × St} (h : wpR o fun d S' => d = .str x.1 ∧ Fr c0 S S' ∧ ∃ ℓ', RepV S' c0 ℓ' b D x.2) : Does1 o S c0 b D x := by
  cases o with
  | ok v S' => obtain ⟨rfl, h1, ℓ', h2⟩ := h; exact ⟨S', ℓ', rfl, h1, h2⟩
  | ex n fs S' => exact h.elim
  | bad => exact h.elim
omit [Rz] in
theorem ne_intsE (ns : List Int) (S : Sto) : dNe (.lst (ns.map .int)) (.lst []) S = .ok (.bl (!ns.isEmpty)) S := by
  have e1 : toPy (.lst (ns.map Z.D.int)) S = some (.list (ns.map PyData.int)) := by simp [toPy, toPyD, atom_ints_plain]
  have e2 : toPy (.lst []) S = some (.list []) := rfl
  have hd : ∀ ns : List Int, PyData.depthAll (ns.map PyData.int) = 0 := fun ns => by
    induction ns with
    | nil => rfl
    | cons x xs ih => simp [PyData.depthAll, PyData.depth, ih]
  have e3 : plainB (.list (ns.map PyData.int)) (.list []) = true := by
    simp [plainB, PyData.plain, PyData.plainAll, plainI, PyData.depth, PyData.depthAll, hd]
  unfold dNe dDat
  rw [e1, e2]
  simp only [e3, if_true]
  cases ns <;> simp [PyData.eqv, PyData.eqvAll]
theorem judged1_ok (R : RepV S c0 ℓ b D st) (hk : st.causes.length ≤ 1000) (n p e : Int) : V1.m_law_judged [.loc c0, .int n, .int p, .int e] S = .ok (.bl (otherJ st n p e)) S := by
  have hlk : (S.set c0 (.dK true (caD ℓ st.causes)))[c0]? = some (.dK true (caD ℓ st.causes)) := at_set R.ca
  have e1 : ∀ τ : Tau, τ[2]? = some (some (.int p)) → τ[3]? = some (some (.int e)) → τ.length = 7 → lcL [(c0, .dK true (caD ℓ st.causes))] (.tp [5, 6]) [5, 6] (mB (mBin dEq (mTup (aCons (mBin dIxA (mVar 6) (mC (.str "person"))) (aCons (mBin dIxA (mVar 6) (mC (.str "deed"))) aNil))) (mTup (aCons (mVar 2) (aCons (mVar 3) aNil))))) (mVar 5) (st.causes.map fun x => .tup [.int x.1, .loc (ℓ x.1)]) τ (S.set c0 (.dK true (caD ℓ st.causes))) = .ok ((st.causes.filter fun x => decide (x.2.person = p ∧ x.2.deed = e)).map fun x => .int x.1) (S.set c0 (.dK true (caD ℓ st.causes))) := fun τ h2 h3 hl => by
    refine lc_src (g := .tp [5, 6]) (keepOk1.mpr hlk) (fun x : Int × Ca => decide (x.2.person = p ∧ x.2.deed = e)) (fun x : Int × Ca => Z.D.int x.1) _ fun x hx => ?_
    obtain ⟨⟨c1, hx1, hsh⟩, hx2⟩ := R.ce x hx
    obtain ⟨f1, f2, f3, -⟩ := hsh.fields
    have hx3 : (S.set c0 (.dK true (caD ℓ st.causes)))[ℓ x.1]? = some (.dK false c1.kw) := set_ne hx1 (by omega)
    match τ, hl, h2, h3 with
    | [a0, a1, a2, a3, a4, a5, a6], _, h2, h3 =>
      simp only [List.getElem?_cons_zero, List.getElem?_cons_succ, Option.some.injEq] at h2 h3
      subst h2 h3
      refine ⟨[a0, a1, some (.int p), some (.int e), a4, some (.int x.1), some (.loc (ℓ x.1))], rfl, ?_, fun _ => by simp⟩
      refine wp_eq ?_
      simp [x_ixKS hx3, kw_person, kw_deed, eq_pair, f2, f3, hz]
  have e2 : ∀ τ : Tau, τ[0]? = some (some (.loc c0)) → τ[1]? = some (some (.int n)) → τ.length = 7 → ∀ L : List (Int × Ca), (∀ x ∈ L, x ∈ st.causes) → lcL [] (.nm 5) [5] (mAnd (mB (mBin dNe (mVar 5) (mVar 1))) (mB (mBin dInA (mBin dIxA (mBin dIxA (mVar 0) (mVar 5)) (mC (.str "word"))) (mTup (aCons (mC (.str "guilty")) (aCons (mC (.str "clear")) aNil)))))) (mVar 5) (L.map fun x => Z.D.int x.1) τ S = .ok ((L.filter fun x => decide (x.1 ≠ n) && x.2.word.judged).map fun x => .int x.1) S := fun τ h0 h1 hl L hL => by
    refine lc_src (g := .nm 5) (keep_nil S) (fun x : Int × Ca => decide (x.1 ≠ n) && x.2.word.judged) (fun x : Int × Ca => Z.D.int x.1) _ fun x hx => ?_
    have hx0 := hL x hx
    obtain ⟨⟨c1, hx1, hsh⟩, hx2⟩ := R.ce x hx0
    obtain ⟨f1, -⟩ := hsh.fields
    have hx3 : S[ℓ x.1]? = some (.dK false c1.kw) := hx1
    have hv : valG (caD ℓ st.causes) (.inl x.1) = some (.loc (ℓ x.1)) := by
      obtain ⟨pre, as, e⟩ := List.append_of_mem hx0
      have hnd := R.nd
      rw [e] at hnd
      rw [valG_caD, e, valG_mid hnd]; rfl
    match τ, hl, h0, h1 with
    | [a0, a1, a2, a3, a4, a5, a6], _, h0, h1 =>
      simp only [List.getElem?_cons_zero, List.getElem?_cons_succ, Option.some.injEq] at h0 h1
      subst h0 h1
      refine ⟨[some (.loc c0), some (.int n), a2, a3, a4, some (.int x.1), a6], rfl, ?_, fun _ => by simp⟩
      refine wp_eq ?_
      by_cases q : x.1 = n
      · simp [q]
      · cases q2 : x.2.word.judged <;> simp [q, x_ixKI R.ca, hv, x_ixKS hx3, kw_word, in_judgedT, f1, hz, q2]
  have e3 : ∀ L : List (Int × Ca), (!(L.filter fun x => decide (x.1 ≠ n) && x.2.word.judged).isEmpty) = L.any fun x => decide (x.1 ≠ n) && x.2.word.judged := fun L => by
    rw [Bool.eq_iff_iff]
    simp [List.filter_eq_nil_iff]
  have e4 : ((st.causes.filter fun x => decide (x.2.person = p ∧ x.2.deed = e)).any fun x => decide (x.1 ≠ n) && x.2.word.judged) = otherJ st n p e := by
    unfold otherJ
    rw [List.any_filter]
    congr 1
    funext x
    cases decide (x.1 ≠ n) <;> cases decide (x.2.person = p ∧ x.2.deed = e) <;> rfl
  have hfl := List.length_filter_le (fun x : Int × Ca => decide (x.2.person = p ∧ x.2.deed = e)) st.causes
  have hLm : ∀ x ∈ (st.causes.filter fun x : Int × Ca => decide (x.2.person = p ∧ x.2.deed = e)), x ∈ st.causes := fun x hx => (List.mem_filter.mp hx).1
  generalize (st.causes.filter fun x : Int × Ca => decide (x.2.person = p ∧ x.2.deed = e)) = L at e1 e4 hfl hLm
  have hfl2 := List.length_filter_le (fun x : Int × Ca => decide (x.1 ≠ n) && x.2.word.judged) L
  have e5 : ∀ τ : Tau, τ[0]? = some (some (.loc c0)) → τ[1]? = some (some (.int n)) → τ.length = 7 → _ := fun τ a b c => e2 τ a b c L hLm
  have e6 := e3 L
  generalize (L.filter fun x : Int × Ca => decide (x.1 ≠ n) && x.2.word.judged) = M at e5 e6 hfl2
  have e7 := ne_intsE (M.map (·.1))
  rw [List.map_map] at e7
  refine wp_eq ?_
  unfold V1.m_law_judged
  rw [x_run, wpS_seq]
  refine ⟨rfl, ?_⟩
  rw [x_lock (l := c0) (S0 := S) (by simp) R.ca, wpS_unlock]
  simp [items_locked hlk, pairs_items, e1]
  refine ⟨by simp [hz]; omega, hlk, ?_⟩
  rw [set_same R.ca]
  have z1 : L.length ≤ 16777216 := by omega
  have z2 : M.length ≤ 16777216 := by omega
  simp [e5, hz, z1, z2]
  have e8 : (M.map fun x : Int × Ca => Z.D.int x.1) = M.map (Z.D.int ∘ fun x : Int × Ca => x.1) := rfl
  rw [e8, e7 S]
  refine ⟨?_, rfl⟩
  rw [← e4, ← e6]
  cases M <;> rfl
theorem charge1_ok (R : RepV S c0 ℓ b D st) (hk : st.causes.length < 1000) (d n p e t : Int) : Does1 (V1.m_law_charge [.loc c0, .loc (c0 + 1), (Pa.charge d n p e t).D] S) S c0 b D (doCharge st d n p e t) := by
  refine Does1.of ?_
  unfold V1.m_law_charge
  rw [chargeD]
  cases q1 : (valG st.causes n).isSome with
  | true =>
    simp [cut_fr2, bindT, setAll, in_dKI R.ca, valG_caD, q1, doCharge]
    exact ⟨Fr.refl _ _, ℓ, R⟩
  | false =>
    have q1' : valG st.causes n = none := by simpa using q1
    have hj := judged1_ok R (by omega) n p e
    cases q2 : otherJ st n p e with
    | true =>
      simp [cut_fr2, bindT, setAll, in_dKI R.ca, valG_caD, q1', doCharge, hj, q2, hz]
      exact ⟨Fr.refl _ _, ℓ, R⟩
    | false =>
      by_cases q3 : (p, e) ∈ st.pardons
      · simp [cut_fr2, bindT, setAll, in_dKI R.ca, valG_caD, q1', doCharge, hj, q2, hz, pairs_in p e _ _ _ R.pa, q3]
        exact ⟨Fr.refl _ _, ℓ, R⟩
      · have hl : c0 + 3 < S.length := lt_of_at R.lo
        have hp := x_put_new (d := .loc S.length) (app_at (T := [(Ca.new d p e t).dw]) R.ca) q1' hk
        have hc := cause1_ok d p e t S
        simp [cut_fr2, bindT, setAll, in_dKI R.ca, valG_caD, q1', doCharge, hj, q2, hz, pairs_in p e _ _ _ R.pa, q3, hc, hp]
        exact ⟨(Fr.app (by omega)).trans (Fr.set (Nat.le_refl _)), _, R.add q1'⟩
theorem pardon1_ok (R : RepV S c0 ℓ b D st) (hS : OkS b D k st) (hk : k ≤ 1000) (hd : D ≤ d) (p e : Int) : Does1 (V1.m_law_pardon [.int b.hold, .loc c0, .loc (c0 + 1), (Pa.pardon d p e).D] S) S c0 b d (doPardon b st d p e) := by
  have hl := hS.l2
  have hl1 := hS.l1
  have hD : (Pa.pardon d p e).D = .tup [.int d, .str "pardon", .int p, .int e] := rfl
  have hin := pairs_in p e _ _ _ R.pa
  refine Does1.of ?_
  unfold V1.m_law_pardon
  rw [hD]
  by_cases q3 : (p, e) ∈ st.pardons
  · simp [cut_fr2, hin, q3, doPardon, hz]
    exact ⟨Fr.refl _ _, ℓ, R.mono hd⟩
  have R1 : RepV (S.set (c0 + 1) (.lst (st.pardons.map pairI ++ [.tup [.int p, .int e]]))) c0 ℓ b D { st with pardons := st.pardons ++ [(p, e)] } := R.pard (p, e)
  have e1 := app_list (y := .tup [.int p, .int e]) R.pa (by rw [List.length_map]; omega)
  have hfr : Fr c0 S (S.set (c0 + 1) (.lst (st.pardons.map pairI ++ [.tup [.int p, .int e]]))) := Fr.set (by omega)
  have hdo : doPardon b st d p e = (Str.ofString "takes", ({ st with pardons := st.pardons ++ [(p, e)], causes := st.causes.map fun x => (x.1, pardC b.hold d p e x.2) } : St)) := if_neg q3
  rw [hdo]
  simp [cut_fr2, hin, q3, isTy_list R.pa, hz, e1]
  generalize S.set (c0 + 1) (.lst (st.pardons.map pairI ++ [.tup [.int p, .int e]])) = S1 at *
  rw [x_lock (l := c0) (S0 := S1) (by simp) R1.ca, wpS_unlock]
  have hlk : (S1.set c0 (.dK true (caD ℓ st.causes)))[c0]? = some (.dK true (caD ℓ st.causes)) := at_set R1.ca
  simp [vals_locked hlk]
  rw [pairs_vals]
  refine for_src (fun as τ S' => ∃ (y : Option Z.D) (pre : List (Int × Ca)) (S2 : Sto), τ = [some (.int b.hold), some (.loc c0), some (.loc (c0 + 1)), some (.tup [.int d, .str "pardon", .int p, .int e]), y] ∧ st.causes = pre ++ as ∧ S' = S2.set c0 (.dK true (caD ℓ st.causes)) ∧ Fr c0 S S2 ∧ RepV S2 c0 ℓ b d { st with pardons := st.pardons ++ [(p, e)], causes := pre.map (fun x : Int × Ca => (x.1, pardC b.hold d p e x.2)) ++ as }) ?_ ?_ ?_ st.causes _ _ ⟨_, [], S1, rfl, rfl, rfl, hfr, R1.mono hd⟩
  · rintro as τ S' ⟨y, pre, S2, rfl, h1, rfl, h2, R2⟩
    exact keepOk1.mpr (at_set R2.ca)
  · rintro ⟨n, c⟩ as τ S' ⟨y, pre, S2, rfl, h1, rfl, h2, R2⟩
    refine ⟨_, rfl, ?_⟩
    obtain ⟨⟨c1, hc2, hsh⟩, hlt⟩ := R2.ce (n, c) (by simp)
    have hlt : c0 + 3 < ℓ n := hlt
    have hsh : Sh b d c c1 := hsh
    obtain ⟨f1, f2, f3, -⟩ := hsh.fields
    have hc : (S2.set c0 (.dK true (caD ℓ st.causes)))[ℓ n]? = some c1.dw := set_ne hc2 (by show c0 ≠ ℓ n; omega)
    have hc' : (S2.set c0 (.dK true (caD ℓ st.causes)))[ℓ n]? = some (.dK false c1.kw) := hc
    have hend := close1_ok hc b.hold d .pardoned
    rw [hsh.fin (Int.le_refl _)] at hend
    have hw : Wd.pardoned.s = "pardoned" := rfl
    rw [hw] at hend
    by_cases q1 : c.person = p ∧ c.deed = e
    · obtain ⟨rfl, rfl⟩ := q1
      cases q2 : c.word.isOpen with
      | true =>
        simp [x_ixKS hc', kw_person, kw_deed, kw_word, f1, f2, f3, cut_fr2, eq_pair, in_openT, q2, hend, hz, at0]
        have hpc : pardC b.hold d c.person c.deed c = c.fin b.hold d .pardoned := if_pos ⟨⟨rfl, rfl⟩, q2⟩
        refine ⟨pre ++ [(n, c)], by simp [h1], S2.set (ℓ n) (c.fin b.hold d .pardoned).dw, ?_, h2.trans (Fr.set (by omega)), ?_⟩
        · exact List.set_comm _ _ (show c0 ≠ ℓ n by omega)
        · have nd := R2.nd
          simp only at nd
          have R3 := R2.set (n := n) (c := c) (c' := c.fin b.hold d .pardoned) (valG_mid nd) Sh.refl
          unfold St.setC at R3
          simp only at R3
          rw [setC_mid nd] at R3
          simpa [hpc] using R3
      | false =>
        simp [x_ixKS hc', kw_person, kw_deed, kw_word, f1, f2, f3, cut_fr2, eq_pair, in_openT, q2, hend, hz, at0]
        have hpc : pardC b.hold d c.person c.deed c = c := if_neg (by simp [q2])
        exact ⟨pre ++ [(n, c)], by simp [h1], S2, rfl, h2, by simpa [hpc] using R2⟩
    · have hpc : pardC b.hold d p e c = c := if_neg (fun h => q1 h.1)
      by_cases q1a : c.person = p <;> by_cases q1b : c.deed = e <;> simp [q1a, q1b] at q1 <;> simp [x_ixKS hc', kw_person, kw_deed, kw_word, f1, f2, f3, cut_fr2, eq_pair, q1a, q1b, in_openT, hend, hz]
      all_goals exact ⟨pre ++ [(n, c)], by simp [h1], S2, rfl, h2, by simpa [hpc] using R2⟩
  · rintro τ S' ⟨y, pre, S2, rfl, h1, rfl, h2, R2⟩
    refine ⟨at_set R2.ca, ?_⟩
    have e4 : st.causes = pre := by simpa using h1
    subst e4
    have hca := R2.ca
    simp only [List.append_nil, caD_map] at hca
    rw [set_back hca]
    first
      | exact ⟨h2, ℓ, by simpa using R2⟩
      | exact ⟨rfl, h2, ℓ, by simpa using R2⟩
end Sp

/-! StD: the older reading: hold, pledge, miss, what is heard. -/
namespace Sp
open PySem L2 Z
variable [Rz]
variable {S : Sto} {c0 : Nat} {ℓ : Int → Nat} {b : Be} {sk : List (Pa × Pa)} {dn : List Pa} {st : St} {c c1 : Ca} {D d n : Int} {k : Nat}
theorem holds1_ok (R : RepV S c0 ℓ b D st) (hc : OkC b D n c) (h : valG st.causes n = some c) (hd : D ≤ d) : Does1 (V1.m_law_holds [.int b.hold, .loc (ℓ n), .int d] S) S c0 b d (doHold b st d n c) := by
  obtain ⟨c1, h1, hs, hlt⟩ := R.cause h
  obtain ⟨f1, f2, f3, f4, f5, f6, f7, f8⟩ := hs.fields
  have h2 : S[ℓ n]? = some (.dK false c1.kw) := h1
  have eh := held1_ok h1 b.hold d
  rw [hs.held hd] at eh
  have ef := free1_ok h1 b.hold d
  have h3 : (S.set (ℓ n) (c1.letGo b.hold d).dw)[ℓ n]? = some (.dK false (c1.letGo b.hold d).kw) := at_set h1
  have h3' : (S.set (ℓ n) (c1.letGo b.hold d).dw)[ℓ n]? = some (c1.letGo b.hold d).dw := at_set h1
  have hu : (c1.letGo b.hold d).spent = c.used b.hold d := hs.used hd
  have hfr : ∀ x : C, Fr c0 S (S.set (ℓ n) x) := fun x => Fr.set (by omega)
  refine Does1.of ?_
  unfold V1.m_law_holds
  cases q1 : c.pledger with
  | some q =>
    simp [x_ixKS h2, kw_pledge, f5, isN_opt, q1, doHold]
    exact ⟨Fr.refl _ _, ℓ, R.mono hd⟩
  | none =>
    cases q2 : c.isHeld b.hold d with
    | true =>
      simp [x_ixKS h2, kw_pledge, f5, isN_opt, q1, doHold, eh, q2]
      exact ⟨Fr.refl _ _, ℓ, R.mono hd⟩
    | false =>
      by_cases q3 : c.used b.hold d = b.hold
      · obtain ⟨c2, e1, e2⟩ := hs.spent hc hd q2 q3
        have R2 := (R.mono hd).upd h e2
        rw [← e1] at R2
        simp [x_ixKS h2, kw_pledge, f5, isN_opt, q1, doHold, eh, q2, ef, x_ixKS h3, kw_past, hu, q3]
        exact ⟨hfr _, ℓ, R2⟩
      · have p2 := putW h3' (pw_since d)
        rw [setset] at p2
        have e1 : (Ca.dw { c1.letGo b.hold d with since := some d }) = (Ca.dw { c.letGo b.hold d with since := some d }) := by
          have := hs.letGo hd
          simp [Ca.dw, Ca.kw] at this ⊢
          exact ⟨this.1, this.2.1, this.2.2.1, this.2.2.2.1, this.2.2.2.2.2⟩
        have R2 := (R.mono hd).set (c' := { c.letGo b.hold d with since := some d }) h Sh.refl
        rw [← e1] at R2
        simp [x_ixKS h2, kw_pledge, f5, isN_opt, q1, doHold, eh, q2, ef, x_ixKS h3, kw_past, hu, q3, p2]
        simp only [hu] at R2
        exact ⟨hfr _, ℓ, R2⟩
def optPy : Option Int → PyData
  | none => .none
  | some i => .int i
theorem pledges1_ok (R : RepV S c0 ℓ b D st) (hk : st.causes.length ≤ 1000) (hP : PlB b st) (h : valG st.causes n = some c) (hd : D ≤ d) (q : Int) : Does1 (V1.m_law_pledges [b.D, .loc c0, .loc (ℓ n), .int d, .int q] S) S c0 b d (doPledge b st d n q c) := by
  obtain ⟨c1, h1, hs, hlt⟩ := R.cause h
  obtain ⟨f1, f2, f3, f4, f5, f6, f7, f8⟩ := hs.fields
  have h2 : S[ℓ n]? = some (.dK false c1.kw) := h1
  have eh := held1_ok h1 b.hold d
  rw [hs.held hd] at eh
  have ef := free1_ok h1 b.hold d
  have h3' : (S.set (ℓ n) (c1.letGo b.hold d).dw)[ℓ n]? = some (c1.letGo b.hold d).dw := at_set h1
  have hfr : ∀ x : C, Fr c0 S (S.set (ℓ n) x) := fun x => Fr.set (by omega)
  have hlk : (S.set c0 (.dK true (caD ℓ st.causes)))[c0]? = some (.dK true (caD ℓ st.causes)) := at_set R.ca
  have el : ∀ τ : Tau, τ.length = 6 → lcL [(c0, .dK true (caD ℓ st.causes))] (.nm 5) [5] tYesM (mBin dIxA (mVar 5) (mC (.str "pledge"))) (st.causes.map fun x => .loc (ℓ x.1)) τ (S.set c0 (.dK true (caD ℓ st.causes))) = .ok (st.causes.map fun x => optD x.2.pledger) (S.set c0 (.dK true (caD ℓ st.causes))) := fun τ hl => by
    have := lc_src (g := .nm 5) (vs := [5]) (tm := tYesM) (e := mBin dIxA (mVar 5) (mC (.str "pledge"))) (f := fun x : Int × Ca => Z.D.loc (ℓ x.1)) (τ := τ) (keepOk1.mpr hlk) (fun x : Int × Ca => true) (fun x : Int × Ca => optD x.2.pledger) st.causes fun x hx => by
      obtain ⟨⟨c2, hx1, hsh⟩, hx2⟩ := R.ce x hx
      have g5 := hsh.fields.2.2.2.2.1
      have hx3 : (S.set c0 (.dK true (caD ℓ st.causes)))[ℓ x.1]? = some (.dK false c2.kw) := set_ne hx1 (by omega)
      match τ, hl with
      | [a0, a1, a2, a3, a4, a5], _ =>
        refine ⟨[a0, a1, a2, a3, a4, some (.loc (ℓ x.1))], rfl, rfl, fun _ => ?_⟩
        refine wp_eq ?_
        simp [x_ixKS hx3, kw_pledge, g5]
    rw [List.filter_eq_self.mpr (fun _ _ => rfl)] at this
    exact this
  have ecount : ∀ τ : Tau, τ[1]? = some (some (.loc c0)) → τ.length = 6 → mLock (mVar 1) (mComp (iVal (mVar 1)) (.nm 5) [5] tYesM (mBin dIxA (mVar 5) (mC (.str "pledge")))) τ S = .ok (.lst (st.causes.map fun x => optD x.2.pledger)) S := fun τ e1 hl => by
    match τ, hl, e1 with
    | [a0, a1, a2, a3, a4, a5], _, e1 =>
      simp only [List.getElem?_cons_zero, List.getElem?_cons_succ, Option.some.injEq] at e1
      subst e1
      rw [x_lockE (l := c0) (S0 := S) (by simp) R.ca]
      refine wp_eq ?_
      rw [wpR_unlock]
      simp [vals_locked hlk, pairs_vals, el]
      exact ⟨by simp [hz]; omega, hlk, set_same R.ca⟩
  have hcnt : ∀ S : Sto, dCountP (.lst (st.causes.map fun x => optD x.2.pledger)) [.int q] S = .ok (.int (pledgeN st q)) S := fun S => by
    have e1 : toPy (.lst (st.causes.map fun x => optD x.2.pledger)) S = some (.list (st.causes.map fun x => optPy x.2.pledger)) := by
      have : ∀ cs : List (Int × Ca), toPyDs (cs.map fun x => optD x.2.pledger) = some (cs.map fun x => optPy x.2.pledger) := fun cs => by
        induction cs with
        | nil => rfl
        | cons x cs ih => simp only [List.map_cons, toPyDs, ih]; cases x.2.pledger <;> rfl
      simp only [toPy, toPyD, this]; rfl
    have e2 : toPy (.int q) S = some (.int q) := rfl
    have e3 : findOk (st.causes.map fun x => optPy x.2.pledger) (.int q) = true := by
      have h1 : ∀ cs : List (Int × Ca), PyData.plainAll (cs.map fun x => optPy x.2.pledger) = true := fun cs => by
        induction cs with
        | nil => rfl
        | cons x cs ih => simp only [List.map_cons, PyData.plainAll, ih, Bool.and_true]; cases x.2.pledger <;> rfl
      simp [findOk, h1, PyData.plain, PyData.depth]
      omega
    unfold dCountP
    simp only [e1, e2, e3, if_true]
    congr 3
    rw [List.countP_eq_length_filter, List.filter_map, List.length_map]
    unfold pledgeN
    congr 2
    funext x
    show PyData.eqv (optPy x.2.pledger) (.int q) = decide (x.2.pledger = some q)
    cases x.2.pledger with
    | none => simp [optPy, PyData.eqv]
    | some v => by_cases e : v = q <;> simp [optPy, PyData.eqv, e]
  have hle := hP q
  refine Does1.of ?_
  unfold V1.m_law_pledges
  cases q1 : c.isHeld b.hold d with
  | false =>
    simp [b1, eh, q1, doPledge]
    exact ⟨Fr.refl _ _, ℓ, R.mono hd⟩
  | true =>
    by_cases q2 : q = c.person
    · simp [b1, eh, q1, doPledge, x_ixKS h2, kw_person, f2, q2]
      exact ⟨Fr.refl _ _, ℓ, R.mono hd⟩
    · by_cases q3 : (pledgeN st q : Int) = b.pledges
      · simp [b1, b3, eh, q1, doPledge, x_ixKS h2, kw_person, f2, q2, ecount, isTy, hcnt, q3]
        exact ⟨Fr.refl _ _, ℓ, R.mono hd⟩
      · have q4 : ¬ b.pledges ≤ (pledgeN st q : Int) := by omega
        have p2 := putW h3' (pw_pledge q)
        rw [setset] at p2
        have e1 : (Ca.dw { c1.letGo b.hold d with pledger := some q }) = (Ca.dw { c.letGo b.hold d with pledger := some q }) := by
          have := hs.letGo hd
          simp [Ca.dw, Ca.kw] at this ⊢
          exact ⟨this.1, this.2.1, this.2.2.1, this.2.2.2.1, this.2.2.2.2.1, this.2.2.2.2.2.1, this.2.2.2.2.2.2.2⟩
        have R2 := (R.mono hd).set (c' := { c.letGo b.hold d with pledger := some q }) h Sh.refl
        rw [← e1] at R2
        simp [b1, b3, eh, q1, doPledge, x_ixKS h2, kw_person, f2, q2, ecount, isTy, hcnt, q3, q4, ef, p2]
        exact ⟨hfr _, ℓ, R2⟩
theorem misses1_ok (R : RepV S c0 ℓ b D st) (hk : st.lost.length ≤ 1000) (hc : OkC b D n c) (h : valG st.causes n = some c) (hd : D ≤ d) : Does1 (V1.m_law_misses [b.D, .loc (ℓ n), .loc (c0 + 3), (Pa.miss d n).D] S) S c0 b d (doMiss b st d n c) := by
  obtain ⟨c1, h1, hs, hlt⟩ := R.cause h
  have hD : (Pa.miss d n).D = .tup [.int d, .str "miss", .int n] := rfl
  refine Does1.of ?_
  unfold V1.m_law_misses
  rw [hD]
  cases q1 : c.pledger with
  | none =>
    have f5 := hs.fields.2.2.2.2.1
    have h2 : S[ℓ n]? = some (.dK false c1.kw) := h1
    simp [x_ixKS h2, kw_pledge, f5, isN_opt, q1, doMiss]
    exact ⟨Fr.refl _ _, ℓ, R.mono hd⟩
  | some q =>
    have hcc : c1 = c := hs.tell hc (by simp [q1])
    subst hcc
    have h2 : S[ℓ n]? = some (.dK false c1.kw) := h1
    have hn : c1.since = none := by
      cases es : c1.since with
      | none => rfl
      | some s => have := (hc.si s es).2.2.2; rw [q1] at this; cases this
    have hu : c1.used b.hold d = c1.spent := used_free hn
    have ea := app_list (y := .tup [.int d, .int n, .int q]) R.lo (by rw [List.length_map]; omega)
    have R1 := (R.mono hd).lost (d, n, q)
    have et : tripI (d, n, q) = .tup [.int d, .int n, .int q] := rfl
    rw [et] at R1
    have hf1 : Fr c0 S (S.set (c0 + 3) (.lst (st.lost.map tripI ++ [.tup [.int d, .int n, .int q]]))) := Fr.set (by omega)
    have h4 : (S.set (c0 + 3) (.lst (st.lost.map tripI ++ [.tup [.int d, .int n, .int q]])))[ℓ n]? = some c1.dw := set_ne h1 (by omega)
    have p2 := putW h4 pw_pledge0
    have ty := isTy_list R.lo
    by_cases q3 : c1.spent < b.hold
    · have h5 : ((S.set (c0 + 3) (.lst (st.lost.map tripI ++ [.tup [.int d, .int n, .int q]]))).set (ℓ n) (Ca.dw { c1 with pledger := none }))[ℓ n]? = some (.dK false (Ca.kw { c1 with pledger := none })) := at_set h4
      have p3 := putW (c := { c1 with pledger := none }) h5 (pw_since d)
      rw [setset] at p3
      have R2 := R1.set (c' := { c1 with pledger := none, since := some d }) (c1 := { c1 with pledger := none, since := some d }) h Sh.refl
      simp [x_ixKS h2, kw_pledge, isN_opt, q1, doMiss, hu, q3, at0, at2, hz]
      simp [optD, ty, ea, p2, x_ixKS h5, kw_past, q3, b1, p3, at0]
      exact ⟨hf1.trans (Fr.set (by omega)), ℓ, R2⟩
    · have h5 : ((S.set (c0 + 3) (.lst (st.lost.map tripI ++ [.tup [.int d, .int n, .int q]]))).set (ℓ n) (Ca.dw { c1 with pledger := none }))[ℓ n]? = some (.dK false (Ca.kw { c1 with pledger := none })) := at_set h4
      have R2 := R1.set (c' := { c1 with pledger := none }) (c1 := { c1 with pledger := none }) h Sh.refl
      simp [x_ixKS h2, kw_pledge, isN_opt, q1, doMiss, hu, q3, at0, at2, hz]
      simp [optD, ty, ea, p2, x_ixKS h5, kw_past, q3, b1, at0]
      exact ⟨hf1.trans (Fr.set (by omega)), ℓ, R2⟩
omit [Rz] in
theorem Sh.alike2 (hs : Sh b D c c1) (p t : Int) : Sh b D { c with puts := p, till := t } { c1 with puts := p, till := t } := hs.alike (fun c => { c with puts := p, till := t }) (fun _ => ⟨rfl, rfl⟩) (fun _ _ _ => rfl)
theorem heard_over (R : RepV S c0 ℓ b D st) (h1s : OneSit b) (hl : b.ts.length ≤ 1000) (h : valG st.causes n = some c) (hd : D ≤ d) (ha : awayB b c d = false) : Does1 (V1.m_law_heard [b.D, .loc c0, .loc (ℓ n), (Pa.over d n).D] S) S c0 b d (doOver b st d n c) := by
  obtain ⟨c1, h1, hs, hlt⟩ := R.cause h
  obtain ⟨f1, f2, f3, f4, f5, f6, f7, f8⟩ := hs.fields
  have h2 : S[ℓ n]? = some (.dK false c1.kw) := h1
  have hD : (Pa.over d n).D = .tup [.int d, .str "over", .int n] := rfl
  have hlast := lastIn_away b c d
  rw [ha, if_neg (by simp)] at hlast
  refine Does1.of ?_
  unfold V1.m_law_heard
  rw [hD]
  by_cases q : c.till ≥ d
  · simp [at0, x_ixKS h2, kw_until, f7, show d ≤ c.till from q, doOver]
    exact ⟨Fr.refl _ _, ℓ, R.mono hd⟩
  · by_cases q2 : c.puts = b.puts
    · simp [at0, at1, x_ixKS h2, kw_until, kw_puts, b2, f6, f7, show ¬ d ≤ c.till from q, x_eqSS, doOver, q2]
      exact ⟨Fr.refl _ _, ℓ, R.mono hd⟩
    · have p1 := putW h1 (pw_puts (c.puts + 1))
      have h4 : (S.set (ℓ n) (Ca.dw { c1 with puts := c.puts + 1 }))[ℓ n]? = some (Ca.dw { c1 with puts := c.puts + 1 }) := at_set h1
      have h5 : (S.set (ℓ n) (Ca.dw { c1 with puts := c.puts + 1 }))[ℓ n]? = some (.dK false (Ca.kw { c1 with puts := c.puts + 1 })) := h4
      have p2 := putW h4 (pw_until (lastOn b d))
      rw [setset] at p2
      have hl1 := last1_ok h1s hl d c.town (S.set (ℓ n) (Ca.dw { c1 with puts := c.puts + 1 }))
      rw [hlast] at hl1
      have ht : (Ca.town { c1 with puts := c.puts + 1 }) = c.town := f4
      have R2 := (R.mono hd).set (c' := { c with puts := c.puts + 1, till := lastOn b d }) h ((hs.mono hd).alike2 _ _)
      have k1 : valG c1.kw (.inr ("until" : Str)) = some (.int c.till) := by rw [kw_until, f7]
      have k2 : valG c1.kw (.inr ("puts" : Str)) = some (.int c.puts) := by rw [kw_puts, f6]
      have k3 : valG (Ca.kw { c1 with puts := c.puts + 1 }) (.inr ("town" : Str)) = some (.int c.town) := by rw [kw_town]; exact congrArg (fun i => some (Z.D.int i)) f4
      generalize hX : (Ca.dw { c1 with puts := c.puts + 1 }) = X at *
      generalize hY : (Ca.kw { c1 with puts := c.puts + 1 }) = Y at *
      simp [at0, at1, x_ixKS h2, k1, k2, b2, show ¬ d ≤ c.till from q, x_eqSS, doOver, q2, p1, x_ixKS h5, k3, hl1, optD, p2]
      exact ⟨Fr.set (by omega), ℓ, R2⟩
theorem heard_judge (R : RepV S c0 ℓ b D st) (hk : st.causes.length ≤ 1000) (h : valG st.causes n = some c) (hd : D ≤ d) {g : Int} (hg : g = 0 ∨ g = 1) : Does1 (V1.m_law_heard [b.D, .loc c0, .loc (ℓ n), (Pa.judge d n g).D] S) S c0 b d (doJudge b st d n g c) := by
  obtain ⟨c1, h1, hs, hlt⟩ := R.cause h
  obtain ⟨f1, f2, f3, f4, f5, f6, f7, f8⟩ := hs.fields
  have h2 : S[ℓ n]? = some (.dK false c1.kw) := h1
  have hD : (Pa.judge d n g).D = .tup [.int d, .str "judge", .int n, .int g] := rfl
  have hj := judged1_ok R hk n c.person c.deed
  have ec := close1_ok h1 b.hold d (verd g)
  rw [hs.fin hd] at ec
  have e3 : ∀ S : Sto, dIxA (.lst [.str "clear", .str "guilty"]) (.int g) S = .ok (.str (verd g).s) S := fun S => by
    rcases hg with rfl | rfl
    · exact congrArg (fun o => ofO o S) (at0 (a := .str "clear") (r := [.str "guilty"]))
    · exact congrArg (fun o => ofO o S) (at1 (a := .str "clear") (b := .str "guilty") (r := []))
  have h4 : (S.set (ℓ n) (c.fin b.hold d (verd g)).dw)[ℓ n]? = some (c.fin b.hold d (verd g)).dw := at_set h1
  have p2 := putW h4 (pw_by (.judge d n g))
  rw [setset] at p2
  have R2 := (R.mono hd).set (c' := { c.fin b.hold d (verd g) with byp := some (.judge d n g) }) h Sh.refl
  rw [hD] at p2
  refine Does1.of ?_
  unfold V1.m_law_heard
  rw [hD]
  by_cases q : c.till ≥ d
  · simp [at0, x_ixKS h2, kw_until, f7, show d ≤ c.till from q, doJudge]
    exact ⟨Fr.refl _ _, ℓ, R.mono hd⟩
  · cases q2 : otherJ st n c.person c.deed with
    | true =>
      simp [at0, at1, at2, x_ixKS h2, kw_until, kw_person, kw_deed, f2, f3, f7, show ¬ d ≤ c.till from q, x_eqSS, ofString_beq, doJudge, hj, q2]
      exact ⟨Fr.refl _ _, ℓ, R.mono hd⟩
    | false =>
      simp [at0, at1, at2, at3, x_ixKS h2, kw_until, kw_person, kw_deed, f2, f3, f7, show ¬ d ≤ c.till from q, x_eqSS, ofString_beq, doJudge, hj, q2, b1, hz, -x_ixAL, e3, ec, p2]
      exact ⟨Fr.set (by omega), ℓ, R2⟩
end Sp

/-! SqC: why, of every paper. -/
namespace Sp
open PySem L2 Z
variable [Rz]
variable {S : Sto} {c0 : Nat} {ℓ : Int → Nat} {b : Be} {dn : List Pa} {dv : Z.D} {st : St} {c : Ca} {D d n : Int} {k : Nat}
end Sp

/-! SqD: why, the whole. -/
namespace Sp
open PySem L2 Z
theorem in_openL (w : Wd) (S : Sto) : inP (.str w.s) (.lst [.str "charged", .str "ready"]) S = some w.isOpen := by
  refine (in_strsL _ [("charged" : Str), ("ready" : Str)] S).trans ?_
  cases w <;> simp [Wd.s, Wd.isOpen, ofString_inj]
theorem in_chL (w : Wd) (S : Sto) : inP (.str w.s) (.lst [.str "charged"]) S = some (w == .charged) := by
  refine (in_strsL _ [("charged" : Str)] S).trans ?_
  cases w <;> simp [Wd.s, ofString_inj]
theorem in_rdL (w : Wd) (S : Sto) : inP (.str w.s) (.lst [.str "ready"]) S = some (w == .ready) := by
  refine (in_strsL _ [("ready" : Str)] S).trans ?_
  cases w <;> simp [Wd.s, ofString_inj]
theorem in_str2 (x a b : Str) (S : Sto) : inP (.str x) (.tup [.str a, .str b]) S = some (decide (x = a ∨ x = b)) := by
  refine (in_strsT x [a, b] S).trans ?_
  simp
variable [Rz]
variable {S : Sto} {c0 : Nat} {ℓ : Int → Nat} {b : Be} {dn : List Pa} {dv : Z.D} {st : St} {c : Ca} {D d n : Int} {k : Nat}
end Sp

/-! StE: the older reading: what a numbered paper does. -/
namespace Sp
open PySem L2 Z
variable [Rz]
variable {S : Sto} {c0 : Nat} {ℓ : Int → Nat} {b : Be} {sk : List (Pa × Pa)} {dn : List Pa} {st : St} {c c1 : Ca} {D d n : Int} {k : Nat}
omit [Rz] in
theorem cut_to3v {a b c : Z.D} {r : List Z.D} : cutD (a :: b :: c :: r) none (some 3) = [a, b, c] := by
  rw [cut_take (by decide)]; rfl
omit [Rz] in
theorem cut_1v {a b : Z.D} : cutD [a, b] none (some 1) = [a] := by
  rw [cut_take (by decide)]; rfl
omit [Rz] in
theorem cut_2v {a b : Z.D} : cutD [a, b] none (some 2) = [a, b] := by
  rw [cut_take (by decide)]; rfl
theorem Does1.closed (R : RepV S c0 ℓ b D st) (hd : D ≤ d) {o : Z.R Z.D} (e : wpR o fun v S' => v = Z.D.str "closed" ∧ S' = S) : Does1 o S c0 b d ("closed", st) := by
  refine Does1.of ?_
  cases o with
  | ok v S' => obtain ⟨rfl, rfl⟩ := e; exact ⟨rfl, Fr.refl _ _, ℓ, R.mono hd⟩
  | ex n fs S' => exact e.elim
  | bad => exact e.elim
theorem done_hold (R : RepV S c0 ℓ b D st) (hS : OkS b D k st) (h : valG st.causes n = some c) (hd : D ≤ d) : Does1 (V1.m_law_done [b.D, .loc c0, .loc (c0 + 3), (Pa.hold d n).D] S) S c0 b d (inOpen c st (doHold b st d n c)) := by
  obtain ⟨c1, h1, hs, hlt⟩ := R.cause h
  have f1 := hs.fields.1
  have h2 : S[ℓ n]? = some (.dK false c1.kw) := h1
  have hD : (Pa.hold d n).D = .tup [.int d, .str "hold", .int n] := rfl
  rw [hD]
  cases q : c.word.isOpen with
  | false =>
    simp only [inOpen, q, Bool.false_eq_true, if_false]
    refine Does1.closed R hd ?_
    unfold V1.m_law_done
    simp [cut_to3v, bindT, setAll, x_ixKI R.ca, valG_caD, h, in_str2, ofString_inj, x_eqSS, ofString_beq, hz, cut_2v, x_ixKS h2, kw_word, f1, in_openL, q]
  | true =>
    simp only [inOpen, q, if_true]
    obtain ⟨S', ℓ', e1, e2, e3⟩ := holds1_ok R (okS_at hS h) h hd
    refine Does1.of ?_
    unfold V1.m_law_done
    simp [cut_to3v, bindT, setAll, x_ixKI R.ca, valG_caD, h, in_str2, ofString_inj, x_eqSS, ofString_beq, hz, cut_2v, x_ixKS h2, kw_word, f1, in_openL, q, b1, e1]
    exact ⟨e2, ℓ', e3⟩
theorem done_pledge (R : RepV S c0 ℓ b D st) (hS : OkS b D k st) (hk : k ≤ 1000) (hP : PlB b st) (h : valG st.causes n = some c) (hd : D ≤ d) (p : Int) : Does1 (V1.m_law_done [b.D, .loc c0, .loc (c0 + 3), (Pa.pledge d n p).D] S) S c0 b d (inOpen c st (doPledge b st d n p c)) := by
  obtain ⟨c1, h1, hs, hlt⟩ := R.cause h
  have f1 := hs.fields.1
  have h2 : S[ℓ n]? = some (.dK false c1.kw) := h1
  have hD : (Pa.pledge d n p).D = .tup [.int d, .str "pledge", .int n, .int p] := rfl
  rw [hD]
  cases q : c.word.isOpen with
  | false =>
    simp only [inOpen, q, Bool.false_eq_true, if_false]
    refine Does1.closed R hd ?_
    unfold V1.m_law_done
    simp [cut_to3v, bindT, setAll, x_ixKI R.ca, valG_caD, h, in_str2, ofString_inj, x_eqSS, ofString_beq, hz, cut_2v, x_ixKS h2, kw_word, f1, in_openL, q]
  | true =>
    simp only [inOpen, q, if_true]
    have hl1 := hS.l1
    obtain ⟨S', ℓ', e1, e2, e3⟩ := pledges1_ok R (by omega) hP h hd p
    refine Does1.of ?_
    unfold V1.m_law_done
    simp [cut_to3v, bindT, setAll, x_ixKI R.ca, valG_caD, h, in_str2, ofString_inj, x_eqSS, ofString_beq, hz, cut_2v, x_ixKS h2, kw_word, f1, in_openL, q, b1, at3, e1]
    exact ⟨e2, ℓ', e3⟩
theorem done_move (R : RepV S c0 ℓ b D st) (h : valG st.causes n = some c) (hd : D ≤ d) (t : Int) : Does1 (V1.m_law_done [b.D, .loc c0, .loc (c0 + 3), (Pa.move d n t).D] S) S c0 b d (inOpen c st (doMove st n t c)) := by
  obtain ⟨c1, h1, hs, hlt⟩ := R.cause h
  obtain ⟨f1, f2, f3, f4, f5, f6, f7, f8⟩ := hs.fields
  have h2 : S[ℓ n]? = some (.dK false c1.kw) := h1
  have hD : (Pa.move d n t).D = .tup [.int d, .str "move", .int n, .int t] := rfl
  rw [hD]
  cases q : c.word.isOpen with
  | false =>
    simp only [inOpen, q, Bool.false_eq_true, if_false]
    refine Does1.closed R hd ?_
    unfold V1.m_law_done
    simp [cut_to3v, bindT, setAll, x_ixKI R.ca, valG_caD, h, in_str2, ofString_inj, x_eqSS, ofString_beq, hz, cut_2v, x_ixKS h2, kw_word, f1, in_openL, q]
  | true =>
    simp only [inOpen, q, if_true]
    have k0 : valG c1.kw (.inr ("word" : Str)) = some (.str c.word.s) := by rw [kw_word, f1]
    have k1 : valG c1.kw (.inr ("town" : Str)) = some (.int c.town) := by rw [kw_town, f4]
    have p1 := putW h1 (pw_town t)
    have h4 : (S.set (ℓ n) (Ca.dw { c1 with town := t }))[ℓ n]? = some (Ca.dw { c1 with town := t }) := at_set h1
    have h5 : (S.set (ℓ n) (Ca.dw { c1 with town := t }))[ℓ n]? = some (.dK false (Ca.kw { c1 with town := t })) := h4
    have k2 : valG (Ca.kw { c1 with town := t }) (.inr ("until" : Str)) = some (.int c.till) := by rw [kw_until]; exact congrArg (fun i => some (Z.D.int i)) f7
    by_cases q2 : c.town = t
    · have p2 := putW h4 (pw_until c.till)
      rw [setset] at p2
      have e1 : Ca.dw { c1 with town := t, till := c.till } = c1.dw := by simp [Ca.dw, Ca.kw, f4, f7, q2]
      have p2 : dPut (.loc (ℓ n)) (.str "until") (.int c.till) (S.set (ℓ n) (Ca.dw { c1 with town := t })) = some (S.set (ℓ n) c1.dw) := by rw [p2]; exact congrArg (fun x => some (S.set (ℓ n) x)) e1
      rw [set_same h1] at p2
      generalize (Ca.dw { c1 with town := t }) = X at *
      generalize (Ca.kw { c1 with town := t }) = Y at *
      refine Does1.of ?_
      unfold V1.m_law_done
      simp [cut_to3v, bindT, setAll, x_ixKI R.ca, valG_caD, h, in_str2, ofString_inj, x_eqSS, ofString_beq, hz, cut_2v, x_ixKS h2, k0, k1, in_openL, q, at3, p1, x_ixKS h5, k2, q2, p2, doMove]
      exact ⟨Fr.refl _ _, ℓ, R.mono hd⟩
    · have p2 := putW h4 (pw_until (-1))
      rw [setset] at p2
      have R2 := (R.mono hd).set (c' := { c with town := t, till := -1 }) (c1 := { c1 with town := t, till := -1 }) h ((hs.mono hd).alike (fun c => { c with town := t, till := -1 }) (fun _ => ⟨rfl, rfl⟩) (fun _ _ _ => rfl))
      have p2 : dPut (.loc (ℓ n)) (.str "until") (.int (-1)) (S.set (ℓ n) (Ca.dw { c1 with town := t })) = some (S.set (ℓ n) (Ca.dw { c1 with town := t, till := -1 })) := p2
      generalize (Ca.dw { c1 with town := t }) = X at *
      generalize (Ca.kw { c1 with town := t }) = Y at *
      refine Does1.of ?_
      unfold V1.m_law_done
      simp [cut_to3v, bindT, setAll, x_ixKI R.ca, valG_caD, h, in_str2, ofString_inj, x_eqSS, ofString_beq, hz, cut_2v, x_ixKS h2, k0, k1, in_openL, q, at3, p1, x_ixKS h5, k2, q2, p2, doMove]
      exact ⟨Fr.set (by omega), ℓ, R2⟩
theorem Does1.word (R : RepV S c0 ℓ b D st) (hd : D ≤ d) {o : Z.R Z.D} {w : Str} (e : wpR o fun v S' => v = Z.D.str w ∧ S' = S) : Does1 o S c0 b d (w, st) := by
  refine Does1.of ?_
  cases o with
  | ok v S' => obtain ⟨rfl, rfl⟩ := e; exact ⟨rfl, Fr.refl _ _, ℓ, R.mono hd⟩
  | ex n fs S' => exact e.elim
  | bad => exact e.elim
theorem done_miss (R : RepV S c0 ℓ b D st) (h1s : OneSit b) (hl : b.ts.length ≤ 1000) (hS : OkS b D k st) (hk : k ≤ 1000) (h : valG st.causes n = some c) (hd : D ≤ d) : Does1 (V1.m_law_done [b.D, .loc c0, .loc (c0 + 3), (Pa.miss d n).D] S) S c0 b d (byBench b c.word.isOpen c d st (doMiss b st d n c)) := by
  obtain ⟨c1, h1, hs, hlt⟩ := R.cause h
  obtain ⟨f1, f2, f3, f4, f5, f6, f7, f8⟩ := hs.fields
  have h2 : S[ℓ n]? = some (.dK false c1.kw) := h1
  have hD : (Pa.miss d n).D = .tup [.int d, .str "miss", .int n] := rfl
  have k0 : valG c1.kw (.inr ("word" : Str)) = some (.str c.word.s) := by rw [kw_word, f1]
  have k1 : valG c1.kw (.inr ("town" : Str)) = some (.int c.town) := by rw [kw_town, f4]
  have hlast := lastIn_away b c d
  have hl1 := last1_ok h1s hl d c.town S
  have hl4 := hS.l4
  obtain ⟨S', ℓ', e1, e2, e3⟩ := misses1_ok R (by omega) (okS_at hS h) h hd
  rw [hD] at e1 ⊢
  cases q : c.word.isOpen with
  | false =>
    simp only [byBench, q, Bool.false_eq_true, if_false]
    refine Does1.word R hd ?_
    unfold V1.m_law_done
    simp [cut_to3v, bindT, setAll, x_ixKI R.ca, valG_caD, h, in_str2, ofString_inj, x_eqSS, ofString_beq, hz, cut_2v, x_ixKS h2, k0, in_openL, q]
  | true =>
    cases q2 : awayB b c d with
    | true =>
      rw [q2, if_pos rfl] at hlast
      rw [hlast] at hl1
      simp only [byBench, q, q2, if_true]
      refine Does1.word R hd ?_
      unfold V1.m_law_done
      simp [cut_to3v, bindT, setAll, x_ixKI R.ca, valG_caD, h, in_str2, ofString_inj, x_eqSS, ofString_beq, hz, cut_2v, x_ixKS h2, k0, k1, in_openL, q, hl1, isN_opt]
    | false =>
      rw [q2, if_neg (by simp)] at hlast
      rw [hlast] at hl1
      simp only [byBench, q, q2, if_true, Bool.false_eq_true, if_false]
      refine Does1.of ?_
      unfold V1.m_law_done
      simp [cut_to3v, bindT, setAll, x_ixKI R.ca, valG_caD, h, in_str2, ofString_inj, x_eqSS, ofString_beq, hz, cut_2v, x_ixKS h2, k0, k1, in_openL, q, hl1, isN_opt, e1]
      exact ⟨e2, ℓ', e3⟩
theorem done_over (R : RepV S c0 ℓ b D st) (h1s : OneSit b) (hl : b.ts.length ≤ 1000) (h : valG st.causes n = some c) (hd : D ≤ d) : Does1 (V1.m_law_done [b.D, .loc c0, .loc (c0 + 3), (Pa.over d n).D] S) S c0 b d (byBench b (c.word == .ready) c d st (doOver b st d n c)) := by
  obtain ⟨c1, h1, hs, hlt⟩ := R.cause h
  obtain ⟨f1, f2, f3, f4, f5, f6, f7, f8⟩ := hs.fields
  have h2 : S[ℓ n]? = some (.dK false c1.kw) := h1
  have hD : (Pa.over d n).D = .tup [.int d, .str "over", .int n] := rfl
  have k0 : valG c1.kw (.inr ("word" : Str)) = some (.str c.word.s) := by rw [kw_word, f1]
  have k1 : valG c1.kw (.inr ("town" : Str)) = some (.int c.town) := by rw [kw_town, f4]
  have hlast := lastIn_away b c d
  have hl1 := last1_ok h1s hl d c.town S
  cases q : (c.word == Wd.ready) with
  | false =>
    rw [hD]
    simp only [byBench, Bool.false_eq_true, if_false]
    refine Does1.word R hd ?_
    unfold V1.m_law_done
    simp [cut_to3v, bindT, setAll, x_ixKI R.ca, valG_caD, h, in_str2, ofString_inj, x_eqSS, ofString_beq, hz, x_ixKS h2, k0, in_rdL, q]
  | true =>
    cases q2 : awayB b c d with
    | true =>
      rw [hD]
      rw [q2, if_pos rfl] at hlast
      rw [hlast] at hl1
      simp only [byBench, q2, if_true]
      refine Does1.word R hd ?_
      unfold V1.m_law_done
      simp [cut_to3v, bindT, setAll, x_ixKI R.ca, valG_caD, h, in_str2, ofString_inj, x_eqSS, ofString_beq, hz, x_ixKS h2, k0, k1, in_rdL, q, hl1, isN_opt]
    | false =>
      obtain ⟨S', ℓ', e1, e2, e3⟩ := heard_over R h1s hl h hd q2
      rw [hD] at e1 ⊢
      rw [q2, if_neg (by simp)] at hlast
      rw [hlast] at hl1
      simp only [byBench, q2, if_true, Bool.false_eq_true, if_false]
      refine Does1.of ?_
      unfold V1.m_law_done
      simp [cut_to3v, bindT, setAll, x_ixKI R.ca, valG_caD, h, in_str2, ofString_inj, x_eqSS, ofString_beq, hz, x_ixKS h2, k0, k1, in_rdL, q, hl1, isN_opt, e1]
      exact ⟨e2, ℓ', e3⟩
theorem done_judge (R : RepV S c0 ℓ b D st) (h1s : OneSit b) (hl : b.ts.length ≤ 1000) (hk : st.causes.length ≤ 1000) (h : valG st.causes n = some c) (hd : D ≤ d) {g : Int} (hg : g = 0 ∨ g = 1) : Does1 (V1.m_law_done [b.D, .loc c0, .loc (c0 + 3), (Pa.judge d n g).D] S) S c0 b d (byBench b (c.word == .ready) c d st (doJudge b st d n g c)) := by
  obtain ⟨c1, h1, hs, hlt⟩ := R.cause h
  obtain ⟨f1, f2, f3, f4, f5, f6, f7, f8⟩ := hs.fields
  have h2 : S[ℓ n]? = some (.dK false c1.kw) := h1
  have hD : (Pa.judge d n g).D = .tup [.int d, .str "judge", .int n, .int g] := rfl
  have k0 : valG c1.kw (.inr ("word" : Str)) = some (.str c.word.s) := by rw [kw_word, f1]
  have k1 : valG c1.kw (.inr ("town" : Str)) = some (.int c.town) := by rw [kw_town, f4]
  have hlast := lastIn_away b c d
  have hl1 := last1_ok h1s hl d c.town S
  obtain ⟨S', ℓ', e1, e2, e3⟩ := heard_judge R hk h hd hg
  rw [hD] at e1 ⊢
  cases q : (c.word == Wd.ready) with
  | false =>
    simp only [byBench, Bool.false_eq_true, if_false]
    refine Does1.word R hd ?_
    unfold V1.m_law_done
    simp [cut_to3v, bindT, setAll, x_ixKI R.ca, valG_caD, h, in_str2, ofString_inj, x_eqSS, ofString_beq, hz, x_ixKS h2, k0, in_rdL, q]
  | true =>
    cases q2 : awayB b c d with
    | true =>
      rw [q2, if_pos rfl] at hlast
      rw [hlast] at hl1
      simp only [byBench, q2, if_true]
      refine Does1.word R hd ?_
      unfold V1.m_law_done
      simp [cut_to3v, bindT, setAll, x_ixKI R.ca, valG_caD, h, in_str2, ofString_inj, x_eqSS, ofString_beq, hz, x_ixKS h2, k0, k1, in_rdL, q, hl1, isN_opt]
    | false =>
      rw [q2, if_neg (by simp)] at hlast
      rw [hlast] at hl1
      simp only [byBench, q2, if_true, Bool.false_eq_true, if_false]
      refine Does1.of ?_
      unfold V1.m_law_done
      simp [cut_to3v, bindT, setAll, x_ixKI R.ca, valG_caD, h, in_str2, ofString_inj, x_eqSS, ofString_beq, hz, x_ixKS h2, k0, k1, in_rdL, q, hl1, isN_opt, e1]
      exact ⟨e2, ℓ', e3⟩
theorem done_bill (R : RepV S c0 ℓ b D st) (h1s : OneSit b) (hl : b.ts.length ≤ 1000) (h : valG st.causes n = some c) (hd : D ≤ d) (g : Int) : Does1 (V1.m_law_done [b.D, .loc c0, .loc (c0 + 3), (Pa.bill d n g).D] S) S c0 b d (byBench b (c.word == .charged) c d st (doBill b st d n g c)) := by
  obtain ⟨c1, h1, hs, hlt⟩ := R.cause h
  obtain ⟨f1, f2, f3, f4, f5, f6, f7, f8⟩ := hs.fields
  have h2 : S[ℓ n]? = some (.dK false c1.kw) := h1
  have hD : (Pa.bill d n g).D = .tup [.int d, .str "bill", .int n, .int g] := rfl
  have k0 : valG c1.kw (.inr ("word" : Str)) = some (.str c.word.s) := by rw [kw_word, f1]
  have k1 : valG c1.kw (.inr ("town" : Str)) = some (.int c.town) := by rw [kw_town, f4]
  have hlast := lastIn_away b c d
  have hl1 := last1_ok h1s hl d c.town S
  rw [hD]
  cases q : (c.word == Wd.charged) with
  | false =>
    simp only [byBench, Bool.false_eq_true, if_false]
    refine Does1.word R hd ?_
    unfold V1.m_law_done
    simp [cut_to3v, bindT, setAll, x_ixKI R.ca, valG_caD, h, in_str2, ofString_inj, x_eqSS, ofString_beq, hz, cut_1v, x_ixKS h2, k0, in_chL, q]
  | true =>
    cases q2 : awayB b c d with
    | true =>
      rw [q2, if_pos rfl] at hlast
      rw [hlast] at hl1
      simp only [byBench, q2, if_true]
      refine Does1.word R hd ?_
      unfold V1.m_law_done
      simp [cut_to3v, bindT, setAll, x_ixKI R.ca, valG_caD, h, in_str2, ofString_inj, x_eqSS, ofString_beq, hz, cut_1v, x_ixKS h2, k0, k1, in_chL, q, hl1, isN_opt]
    | false =>
      rw [q2, if_neg (by simp)] at hlast
      rw [hlast] at hl1
      simp only [byBench, q2, if_true, Bool.false_eq_true, if_false, doBill]
      refine Does1.of ?_
      unfold V1.m_law_done
      by_cases q3 : g = 1
      · have p1 := putW h1 (pw_word .ready)
        have hw1 : Wd.ready.s = "ready" := rfl
        rw [hw1] at p1
        have R2 := (R.mono hd).set (c' := { c with word := .ready }) (c1 := { c1 with word := .ready }) h ((hs.mono hd).alike (fun c => { c with word := .ready }) (fun _ => ⟨rfl, rfl⟩) (fun _ _ _ => rfl))
        simp [cut_to3v, bindT, setAll, x_ixKI R.ca, valG_caD, h, in_str2, ofString_inj, x_eqSS, ofString_beq, hz, cut_1v, x_ixKS h2, k0, k1, in_chL, q, hl1, isN_opt, at3, q3, p1]
        exact ⟨Fr.set (by omega), ℓ, R2⟩
      · have e1 := close1_ok h1 b.hold d .thrown
        rw [hs.fin hd] at e1
        have hw : Wd.thrown.s = "thrown" := rfl
        rw [hw] at e1
        have R2 := (R.mono hd).set (c' := c.fin b.hold d .thrown) h Sh.refl
        simp [cut_to3v, bindT, setAll, x_ixKI R.ca, valG_caD, h, in_str2, ofString_inj, x_eqSS, ofString_beq, hz, cut_1v, x_ixKS h2, k0, k1, in_chL, q, hl1, isN_opt, at3, q3, b1, e1]
        exact ⟨Fr.set (by omega), ℓ, R2⟩
end Sp

/-! SpJ: read. -/
namespace Sp
open PySem L2 Z
variable [Rz]
variable {S : Sto} {r n0 : Nat} {ℓ : Int → Nat} {b : Be} {sk : List (Pa × Pa)} {dn : List Pa} {st : St} {c : Ca}
noncomputable def readRest : MS := (sSeq (sIf (mB (mBin dNotInA (mBin dIxA (mVar 1) (mC (.int 2))) (mFld "Reading" "causes" (mVar 0)))) (sRet (mC (.str "unknown"))) sNil)
  (sSeq (sAsg 2 (mBin dIxA (mFld "Reading" "causes" (mVar 0)) (mBin dIxA (mVar 1) (mC (.int 2)))))
  (sSeq (sIf (mB (mBin dEq (mVar 4) (mC (.str "aside")))) (sRet (mMethO "Reading" "aside" (Pg.m_Reading_aside) (mVar 0) (aCons (mVar 1) (aCons (mVar 2) aNil)))) sNil)
  (sSeq (sIf (mB (mBin dInA (mVar 4) (mTup (aCons (mC (.str "hold")) (aCons (mC (.str "pledge")) (aCons (mC (.str "move")) aNil)))))) (sRet (mMethO "Reading" "in_open" (Pg.m_Reading_in_open) (mVar 0) (aCons (mVar 1) (aCons (mVar 2) aNil)))) sNil)
  (sRet (mMethO "Reading" "by_bench" (Pg.m_Reading_by_bench) (mVar 0) (aCons (mVar 1) (aCons (mVar 2) aNil))))))))
theorem read_eq : Pg.m_Reading_read = runD 2 5 (sSeq (sTup [3, 4] (mSl (mVar 1) none (some (mC (.int 2)))))
  (sSeq (sIf (mB (mBin dInA (mVar 1) (mFld "Reading" "struck" (mVar 0)))) (sRet (mC (.str "struck"))) sNil)
  (sSeq (sIf (mB (mBin dEq (mVar 4) (mC (.str "charge")))) (sRet (mMethO "Reading" "charge" (Pg.m_Reading_charge) (mVar 0) (aCons (mVar 1) aNil))) sNil)
  (sSeq (sIf (mB (mBin dEq (mVar 4) (mC (.str "pardon")))) (sRet (mMethO "Reading" "pardon" (Pg.m_Reading_pardon) (mVar 0) (aCons (mVar 3) (aCons (mSl (mVar 1) (some (mC (.int 2))) none) aNil)))) sNil)
  readRest)))) := rfl
theorem read_num (R : Rep S r n0 ℓ b sk dn st) {p : Pa} {d n : Int} {w : Str} {rest : List Z.D} {ba bb : Bool} {f : Ca → Str × St} (hp : p.D = .tup (.int d :: .str w :: .int n :: rest)) (h1 : (w == ("charge" : Str)) = false) (h2 : (w == ("pardon" : Str)) = false) (h3 : (w == ("aside" : Str)) = ba) (h4 : decide (w = ("hold" : Str) ∨ w = ("pledge" : Str) ∨ w = ("move" : Str)) = bb)
    (hx : rdP b dn st p = withC st n f) (k : ∀ c, valG st.causes n = some c → Does (if ba = true then Pg.m_Reading_aside [.loc r, p.D, .loc (ℓ n)] S else if bb = true then Pg.m_Reading_in_open [.loc r, p.D, .loc (ℓ n)] S else Pg.m_Reading_by_bench [.loc r, p.D, .loc (ℓ n)] S) S r n0 b sk dn (f c)) :
    Does (Pg.m_Reading_read [.loc r, p.D] S) S r n0 b sk dn (rd b sk dn st p) := by
  have hs : inP (.tup (.int d :: .str w :: .int n :: rest)) (.loc n0) S = some (valG sk p).isSome := by rw [← hp]; exact in_struck R.sk
  have hrest : (valG sk p).isSome = false → wpS (readRest [some (.loc r), some (.tup (.int d :: .str w :: .int n :: rest)), none, some (.int d), some (.str w)] S) (fun _ _ => False) fun e S' => e = .str (withC st n f).1 ∧ Fr r S S' ∧ ∃ ℓ', Rep S' r n0 ℓ' b sk dn (withC st n f).2 := fun q => by
    unfold readRest
    cases q2 : valG st.causes n with
    | none =>
      rw [show withC st n f = (Str.ofString "unknown", st) from by simp [withC, q2]]
      simp [R.me, lr_causes, at2, in_dKI R.ca, valG_caD, q2]
      exact same R
    | some c =>
      rw [show withC st n f = f c from by simp [withC, q2]]
      have k := k c q2
      rw [hp] at k
      cases ba with
      | true =>
        simp only [if_true] at k
        obtain ⟨S', e1, e2⟩ := does_eq k
        simp [R.me, lr_causes, lr_no, x_eqSS, h3, at2, in_dKI R.ca, valG_caD, q2, x_ixKI R.ca, e1]
        exact e2
      | false =>
        cases bb with
        | true =>
          simp only [if_true, Bool.false_eq_true, if_false] at k
          obtain ⟨S', e1, e2⟩ := does_eq k
          simp [R.me, lr_causes, lr_no, x_eqSS, h3, at2, in_dKI R.ca, valG_caD, q2, x_ixKI R.ca, in_str3, h4, hz, e1]
          exact e2
        | false =>
          simp only [Bool.false_eq_true, if_false] at k
          obtain ⟨S', e1, e2⟩ := does_eq k
          simp [R.me, lr_causes, lr_no, x_eqSS, h3, at2, in_dKI R.ca, valG_caD, q2, x_ixKI R.ca, in_str3, h4, hz, e1]
          exact e2
  unfold Does
  rw [read_eq]
  cases q : (valG sk p).isSome with
  | true =>
    rw [show rd b sk dn st p = (Str.ofString "struck", st) from if_pos q, hp]
    simp [cut_to2, bindT, setAll, R.me, lr_struck, hs, q]
    exact same R
  | false =>
    rw [show rd b sk dn st p = withC st n f from by simp [rd, q, hx], hp]
    simp [cut_to2, bindT, setAll, R.me, lr_struck, hs, q, x_eqSS, h1, h2]
    exact wpS_imp (hrest q) (fun _ _ h => h.elim) fun _ _ h => h
theorem read_charge (R : Rep S r n0 ℓ b sk dn st) (hZ : Sz b st) (d n pe e t : Int) : Does (Pg.m_Reading_read [.loc r, (Pa.charge d n pe e t).D] S) S r n0 b sk dn (rd b sk dn st (.charge d n pe e t)) := by
  have hs : inP (Pa.charge d n pe e t).D (.loc n0) S = some (valG sk (.charge d n pe e t)).isSome := in_struck R.sk
  obtain ⟨S', e1, e2⟩ := does_eq (charge_ok R hZ d n pe e t)
  rw [chargeD] at hs e1
  unfold Does
  rw [read_eq]
  rw [chargeD]
  cases q : (valG sk (.charge d n pe e t)).isSome with
  | true =>
    rw [show rd b sk dn st (.charge d n pe e t) = (Str.ofString "struck", st) from if_pos q]
    simp [cut_to2, bindT, setAll, R.me, lr_struck, hs, q]
    exact same R
  | false =>
    rw [show rd b sk dn st (.charge d n pe e t) = doCharge st d n pe e t from by simp [rd, q, rdP]]
    simp [cut_to2, bindT, setAll, R.me, lr_struck, lr_no, hs, q, x_eqSS, e1]
    exact e2
theorem read_pardon (R : Rep S r n0 ℓ b sk dn st) (hZ : Sz b st) {d : Int} (hd : 0 ≤ d ∧ d ≤ 60) (pe e : Int) : Does (Pg.m_Reading_read [.loc r, (Pa.pardon d pe e).D] S) S r n0 b sk dn (rd b sk dn st (.pardon d pe e)) := by
  have hs : inP (Pa.pardon d pe e).D (.loc n0) S = some (valG sk (.pardon d pe e)).isSome := in_struck R.sk
  obtain ⟨S', e1, e2⟩ := does_eq (pardon_ok R hZ hd pe e)
  have hD : (Pa.pardon d pe e).D = .tup [.int d, .str "pardon", .int pe, .int e] := rfl
  rw [hD] at hs
  unfold Does
  rw [read_eq]
  rw [hD]
  cases q : (valG sk (.pardon d pe e)).isSome with
  | true =>
    rw [show rd b sk dn st (.pardon d pe e) = (Str.ofString "struck", st) from if_pos q]
    simp [cut_to2, bindT, setAll, R.me, lr_struck, hs, q]
    exact same R
  | false =>
    rw [show rd b sk dn st (.pardon d pe e) = doPardon b st d pe e from by simp [rd, q, rdP]]
    simp [cut_to2, cut_fr2, bindT, setAll, R.me, lr_struck, lr_no, hs, q, x_eqSS, ofString_beq, hz, e1]
    exact e2
theorem read_ok (R : Rep S r n0 ℓ b sk dn st) (hZ : Sz b st) {p : Pa} (hp : okP p) : Does (Pg.m_Reading_read [.loc r, p.D] S) S r n0 b sk dn (rd b sk dn st p) := by
  have hd := okP_day hp
  cases p with
  | charge d n q e t => exact read_charge R hZ d n q e t
  | pardon d q e => exact read_pardon R hZ hd q e
  | aside d n => exact read_num (w := "aside") (rest := []) (ba := true) (bb := false) R rfl (by simp [ofString_beq]) (by simp [ofString_beq]) (by simp [ofString_beq]) (by simp [ofString_inj]) rfl fun c h => by rw [if_pos rfl]; exact aside_ok R h _
  | hold d n => exact read_num (w := "hold") (rest := []) (ba := false) (bb := true) R rfl (by simp [ofString_beq]) (by simp [ofString_beq]) (by simp [ofString_beq]) (by simp [ofString_inj]) rfl fun c h => by rw [if_neg (by simp), if_pos rfl]; exact opens_ok R hZ h hd (.inl ⟨rfl, rfl⟩)
  | pledge d n q => exact read_num (w := "pledge") (rest := [.int q]) (ba := false) (bb := true) R rfl (by simp [ofString_beq]) (by simp [ofString_beq]) (by simp [ofString_beq]) (by simp [ofString_inj]) rfl fun c h => by rw [if_neg (by simp), if_pos rfl]; exact opens_ok R hZ h hd (.inr (.inl ⟨_, rfl, rfl⟩))
  | move d n t => exact read_num (w := "move") (rest := [.int t]) (ba := false) (bb := true) R rfl (by simp [ofString_beq]) (by simp [ofString_beq]) (by simp [ofString_beq]) (by simp [ofString_inj]) rfl fun c h => by rw [if_neg (by simp), if_pos rfl]; exact opens_ok R hZ h hd (.inr (.inr ⟨_, rfl, rfl⟩))
  | bill d n g => exact read_num (w := "bill") (rest := [.int g]) (ba := false) (bb := false) R rfl (by simp [ofString_beq]) (by simp [ofString_beq]) (by simp [ofString_beq]) (by simp [ofString_inj]) rfl fun c h => by rw [if_neg (by simp), if_neg (by simp)]; exact byb_bill R hZ h hd g
  | miss d n => exact read_num (w := "miss") (rest := []) (ba := false) (bb := false) R rfl (by simp [ofString_beq]) (by simp [ofString_beq]) (by simp [ofString_beq]) (by simp [ofString_inj]) rfl fun c h => by rw [if_neg (by simp), if_neg (by simp)]; exact byb_miss R hZ h hd
  | over d n => exact read_num (w := "over") (rest := []) (ba := false) (bb := false) R rfl (by simp [ofString_beq]) (by simp [ofString_beq]) (by simp [ofString_beq]) (by simp [ofString_inj]) rfl fun c h => by rw [if_neg (by simp), if_neg (by simp)]; exact byb_over R hZ h hd
  | judge d n g => exact read_num (w := "judge") (rest := [.int g]) (ba := false) (bb := false) R rfl (by simp [ofString_beq]) (by simp [ofString_beq]) (by simp [ofString_beq]) (by simp [ofString_inj]) rfl fun c h => by rw [if_neg (by simp), if_neg (by simp)]; exact byb_judge R hZ h hd (by have := hp.2.2; omega)
end Sp

/-! SpM: read_by on the store. -/
namespace Sp
open PySem L2 Z
variable [Rz]
variable {S : Sto} {r n0 : Nat} {ℓ : Int → Nat} {b : Be} {sk : List (Pa × Pa)} {dn : List Pa} {st : St} {c : Ca}
theorem sz_of {D : Int} {k : Nat} (hB : OkB b) (h : OkS b D k st) (hD : 0 ≤ D ∧ D ≤ 60) (hk : k < 1000) : Sz b st where
  hold := by have := hB.hold; omega
  sm := fun x hx => by
    have hc := h.cs x hx
    have := hB.hold
    have := hc.sp
    have := hc.pl
    exact ⟨by omega, fun s hs => by have := hc.si s hs; omega, by omega⟩
  n1 := by have := h.l1; omega
  n2 := by have := h.l2; omega
  n3 := by have := h.l3; omega
  n4 := by have := h.l4; omega
theorem make_ok (n0 : Nat) (S : Sto) : Pg.m_Reading_init [.loc S.length, b.D, .loc n0, .loc (n0 + 1)] (S ++ [.ins "Reading" []]) = .ok .non (S ++ [.ins "Reading" (rfs S.length n0 b none), .dK false [], .lst [], .lst [], .lst []]) := by
  refine wp_eq ?_
  unfold Pg.m_Reading_init
  simp [putD, ofString_inj, hz]
  rfl
theorem isN_strike (x : Option (Pa × Option Pa)) (S : Sto) : dIsN false (optStr x) .non S = .ok (.bl (!x.isSome)) S := by
  cases x <;> rfl
def PInv (S : Sto) (r n0 : Nat) (b : Be) (sk : List (Pa × Pa)) (dn ps qs : List Pa) (τ : Tau) (S' : Sto) : Prop := ∃ (y : Option Z.D) (pre : List Pa) (ℓ' : Int → Nat) (D : Int), τ = [some b.D, some (.tup (ps.map Pa.D)), some (.loc n0), some (.loc (n0 + 1)), some (.loc r), y] ∧ ps = pre ++ qs ∧ Fr r S S' ∧ (0 ≤ D ∧ D ≤ 60) ∧ (∀ q ∈ qs, D ≤ q.day) ∧ qs.Pairwise (fun a b => a.day ≤ b.day) ∧ OkS b D pre.length (pre.foldl (step b sk dn) St.nil) ∧ Rep S' r n0 ℓ' b sk dn (pre.foldl (step b sk dn) St.nil)
theorem strike0 (p : Pa) (j : Option Pa) (S : Sto) : dIxA (optStr (some (p, j))) (.int 0) S = .ok p.D S := rfl
theorem strike1 (p : Pa) (j : Option Pa) (S : Sto) : dIxA (optStr (some (p, j))) (.int 1) S = .ok (byD j) S := rfl
theorem pass_wp {ps : List Pa} (hB : OkB b) (hR : Rl ps) (R0 : Rep S r n0 ℓ b sk dn St.nil) (y : Option Z.D) {N : Tau → Sto → Prop} {T : Z.D → Sto → Prop}
    (k : ∀ y S' ℓ', Fr r S S' → Rep S' r n0 ℓ' b sk dn (pass b sk dn ps) → N [some b.D, some (.tup (ps.map Pa.D)), some (.loc n0), some (.loc (n0 + 1)), some (.loc r), y] S') :
    wpS (forL [] (.nm 5) (sIf (mB (mBin (dIsN false) (mFld "Reading" "strike" (mVar 4)) (mC .non))) (sExpr (mMeth "list" dAppend (mFld "Reading" "words" (mVar 4)) (aCons (mMethO "Reading" "read" (Pg.m_Reading_read) (mVar 4) (aCons (mVar 5) aNil)) aNil))) sNil) (ps.map Pa.D) [some b.D, some (.tup (ps.map Pa.D)), some (.loc n0), some (.loc (n0 + 1)), some (.loc r), y] S) N T := by
  refine for_src (PInv S r n0 b sk dn ps) (fun _ _ S _ => keep_nil S) ?_ ?_ ps _ _ ⟨y, [], ℓ, 0, rfl, rfl, Fr.refl _ _, ⟨by decide, by decide⟩, fun q hq => (okP_day (hR.ok q hq)).1, hR.so, okS_nil b 0, R0⟩
  · rintro p qs τ S' ⟨y, pre, ℓ', D, rfl, e, hf, hD, hq, hso, hS, R1⟩
    have hp := hR.ok p (by rw [e]; simp)
    have hdp := okP_day hp
    have hd := hq p (by simp)
    have hso2 := List.pairwise_cons.mp hso
    have hl : pre.length < 1000 := by have := hR.ln; rw [e] at this; simp at this; omega
    have e2 : ps = (pre ++ [p]) ++ qs := by simp [e]
    have hS' : OkS b p.day (pre ++ [p]).length ((pre ++ [p]).foldl (step b sk dn) St.nil) := by
      rw [List.foldl_append]
      have := step_okS (sk := sk) (dn := dn) hS hB hp hd hD.1
      simpa using this
    refine ⟨_, rfl, ?_⟩
    generalize hst : pre.foldl (step b sk dn) St.nil = st at *
    have hfold : (pre ++ [p]).foldl (step b sk dn) St.nil = step b sk dn st p := by simp [hst]
    rw [hfold] at hS'
    cases q1 : st.strike.isSome with
    | true =>
      have hstep : step b sk dn st p = st := if_pos q1
      simp [R1.me, lr_strike, isN_strike, q1]
      rw [hstep] at hS'
      exact ⟨_, pre ++ [p], ℓ', p.day, rfl, e2, hf, hdp, hso2.1, hso2.2, by rw [hfold, hstep]; exact hS', by rw [hfold, hstep]; exact R1⟩
    | false =>
      have hstep : step b sk dn st p = { (rd b sk dn st p).2 with words := (rd b sk dn st p).2.words ++ [(rd b sk dn st p).1] } := if_neg (by simp [q1])
      obtain ⟨S2, e1, hf2, ℓ2, R2⟩ := does_eq (read_ok R1 (sz_of hB hS hD hl) hp)
      have hw : (rd b sk dn st p).2.words.length ≤ pre.length := by rw [rd_words]; exact hS.l3
      have ea := app_list (y := .str (rd b sk dn st p).1) R2.wo (by rw [List.length_map]; omega)
      simp [R1.me, lr_strike, lr_words, lr_no, isN_strike, q1, isTy_list R1.wo, e1, ea]
      exact ⟨_, pre ++ [p], ℓ2, p.day, rfl, e2, (hf.trans hf2).trans (Fr.set (by omega)), hdp, hso2.1, hso2.2, by rw [hfold]; exact hS', by rw [hfold, hstep]; exact R2.words _⟩
  · rintro τ S' ⟨y, pre, ℓ', D, rfl, e, hf, hD, hq, hso, hS, R1⟩
    have e : ps = pre := by simpa using e
    subst e
    exact k y S' ℓ' hf R1
theorem put_struck (sk : List (Pa × Pa)) (j p : Pa) : putG (struckD sk) j.row p.D = struckD (putG sk j p) :=
  putG_map Pa.row Pa.D (fun a b h => row_inj.mp h) j p sk
theorem put_T {l : Nat} {kvs : List (List Key × Z.D)} {k : List Key} {d : Z.D} (h : S[l]? = some (.dT false kvs)) (hz : kvs.length < 16777216) : dPut (.loc l) (rowD k) d S = some (S.set l (.dT false (putG kvs k d))) := by
  have hz : kvs.length < sizeLine := hz
  have e := rowOf_row k
  unfold dPut
  simp only [rowD] at e ⊢
  simp [h, e, hz]
def WInv (S : Sto) (b : Be) (ps : List Pa) (m : Nat) (τ : Tau) (S' : Sto) : Prop :=
  ∃ (x y : Option Z.D) (sk : List (Pa × Pa)) (dn : List Pa), τ = [some b.D, some (.tup (ps.map Pa.D)), some (.loc S.length), some (.loc (S.length + 1)), x, y] ∧ Fr S.length S S' ∧ S'[S.length]? = some (.dT false (struckD sk)) ∧ S'[S.length + 1]? = some (.lst (dn.map Pa.D)) ∧ 1 ≤ m ∧ loop b ps (m - 1) sk dn = readAll b ps ∧ asides ps dn ≤ m - 1 ∧ sk.length + m ≤ ps.length + 1 ∧ dn.length + m ≤ ps.length + 1
theorem putG_len {κ α : Type} [DecidableEq κ] (kvs : List (κ × α)) (k : κ) (v : α) : (putG kvs k v).length ≤ kvs.length + 1 := by
  unfold putG
  split <;> simp
theorem read_by_wp {ps : List Pa} (hB : OkB b) (hR : Rl ps) (S : Sto) : ∃ S' r ℓ, Pg.m_read_by [b.D, .tup (ps.map Pa.D)] S = .ok (.loc r) S' ∧ Fr S.length S S' ∧ Rep S' r S.length ℓ b (readAll b ps).2.1 (readAll b ps).2.2 (reading b ps) := by
  suffices h : wpR (Pg.m_read_by [b.D, .tup (ps.map Pa.D)] S) (fun d S' => ∃ r ℓ, d = .loc r ∧ Fr S.length S S' ∧ Rep S' r S.length ℓ b (readAll b ps).2.1 (readAll b ps).2.2 (reading b ps)) by
    cases e : Pg.m_read_by [b.D, .tup (ps.map Pa.D)] S with
    | ok d S' => rw [e] at h; obtain ⟨r, ℓ, rfl, h1, h2⟩ := h; exact ⟨S', r, ℓ, rfl, h1, h2⟩
    | ex n fs S' => rw [e] at h; exact h.elim
    | bad => rw [e] at h; exact h.elim
  unfold Pg.m_read_by
  rw [x_run, wpS_seq]
  refine ⟨rfl, ?_⟩
  simp [setAll, hz]
  refine while_wp (WInv S b ps) ?_ (ps.length + 1) _ _ ⟨none, none, [], [], rfl, ⟨by simp, fun i hi => by rw [List.getElem?_append_left hi]⟩, by simp; rfl, by simp, by omega, rfl, by unfold asides; exact List.length_filter_le _ _, by simp, by simp⟩
  rintro m τ S' ⟨x, y, sk, dn, rfl, hf, h1, h2, h0, h3, h4, h5, h6⟩
  obtain ⟨m, rfl⟩ : ∃ k, m = k + 1 := ⟨m - 1, by omega⟩
  rw [Nat.add_sub_cancel] at h3 h4
  simp
  have hn : S.length + 1 < S'.length := lt_of_at h2
  have hl := hR.ln
  have hmk := make_ok (b := b) S.length S'
  have hfr : Fr S'.length S' (S' ++ [.ins "Reading" (rfs S'.length S.length b none), .dK false [], .lst [], .lst [], .lst []]) := Fr.app (Nat.le_refl _)
  have hR0 : Rep (S' ++ [.ins "Reading" (rfs S'.length S.length b none), .dK false [], .lst [], .lst [], .lst []]) S'.length S.length (fun _ => 0) b sk dn St.nil := {
    me := by simp; rfl
    lt := hn
    sk := app_at h1
    dn := app_at h2
    ca := by simp; rfl
    pa := by simp [St.nil]
    wo := by simp [St.nil]
    lo := by simp [St.nil]
    ce := fun x hx => by cases hx
    inj := fun x hx => by cases hx
    nd := List.nodup_nil }
  obtain ⟨pS, pK⟩ := pass_ok (sk := sk) (dn := dn) hB hR
  simp [hmk, itemsOf]
  generalize S' ++ [.ins "Reading" (rfs S'.length S.length b none), .dK false [], .lst [], .lst [], .lst []] = S1 at *
  refine pass_wp hB hR hR0 y fun y2 S2 ℓ2 hf2 R2 => ?_
  have hfin : Fr S.length S S2 := (hf.trans (hfr.mono (by omega))).trans (hf2.mono (by omega))
  cases hs : (pass b sk dn ps).strike with
  | none =>
    have hlp : loop b ps m sk dn = (pass b sk dn ps, sk, dn) := by
      cases m with
      | zero => rfl
      | succ m => simp [loop, hs]
    have hr : readAll b ps = (pass b sk dn ps, sk, dn) := h3.symm.trans hlp
    have hr2 : reading b ps = pass b sk dn ps := by unfold reading; rw [hr]
    have hs' : (reading b ps).strike = none := by rw [hr2]; exact hs
    rw [hr, hr2]
    simp [R2.me, lr_strike, isN_strike, hs]
    exact ⟨hfin, _, R2⟩
  | some q =>
    obtain ⟨d, g, n, d', e, hnd, hmem⟩ := pK q hs
    subst e
    have hlt := asides_lt hmem hnd
    cases m with
    | zero => omega
    | succ m =>
      have hlp : loop b ps (m + 1) sk dn = loop b ps m (putG sk (.judge d n g) (.aside d' n)) (dn ++ [.aside d' n]) := by
        rw [loop, hs]; rfl
      have hme : S2[S'.length]? = some (.ins "Reading" (rfs S'.length S.length b (some (.aside d' n, some (.judge d n g))))) := by rw [← hs]; exact R2.me
      have ea := app_list (y := (Pa.aside d' n).D) R2.dn (by rw [List.length_map]; omega)
      have hme3 : (S2.set (S.length + 1) (.lst (dn.map Pa.D ++ [(Pa.aside d' n).D])))[S'.length]? = some (.ins "Reading" (rfs S'.length S.length b (some (.aside d' n, some (.judge d n g))))) := set_ne hme (by omega)
      have hsk3 : (S2.set (S.length + 1) (.lst (dn.map Pa.D ++ [(Pa.aside d' n).D])))[S.length]? = some (.dT false (struckD sk)) := set_ne R2.sk (by omega)
      have ep : dPut (.loc S.length) (Pa.judge d n g).D (Pa.aside d' n).D (S2.set (S.length + 1) (.lst (dn.map Pa.D ++ [(Pa.aside d' n).D]))) = some ((S2.set (S.length + 1) (.lst (dn.map Pa.D ++ [(Pa.aside d' n).D]))).set S.length (.dT false (struckD (putG sk (.judge d n g) (.aside d' n))))) := by
        rw [← put_struck]
        exact put_T (k := (Pa.judge d n g).row) hsk3 (by simp [struckD]; omega)
      simp [hme, lr_strike, isN_strike, hs, isTy_list R2.dn, strike0, strike1, byD, ea, hme3, ep]
      have hpl := putG_len sk (.judge d n g) (.aside d' n)
      refine ⟨_, _, putG sk (.judge d n g) (.aside d' n), dn ++ [.aside d' n], rfl, ?_, ?_, ?_, by omega, hlp ▸ h3, by omega, by omega, by simp; omega⟩
      · exact (hfin.trans (Fr.set (by omega))).trans (Fr.set (Nat.le_refl _))
      · exact at_set hsk3
      · rw [set_ne (o := some (.lst (dn.map Pa.D ++ [(Pa.aside d' n).D]))) (at_set R2.dn) (by omega)]
        simp
end Sp

/-! StF: the older reading: a pass. -/
namespace Sp
open PySem L2 Z
variable [Rz]
variable {S : Sto} {c0 r0 : Nat} {ℓ : Int → Nat} {b : Be} {sk : List (Pa × Pa)} {dn ps : List Pa} {pv : Z.D} {st : St} {c c1 : Ca} {D d n : Int} {k : Nat}
/-- what strikes stands among the values -/
def ValsOf (sk : List (Pa × Pa)) (dn : List Pa) : Prop := sk.map (·.2) = dn
omit [Rz] in
theorem rowPyV (p : Pa) : toPyD p.D = some (.tuple (p.row.map keyPy)) := by
  have : p.D = rowD p.row := rfl
  rw [this]
  have h := py_rows [p.row]
  simp only [List.map_cons, List.map_nil, toPyDs] at h
  cases e : toPyD (rowD p.row) with
  | none => simp [e] at h
  | some v => simp [e] at h; rw [h]
theorem in_vals (hs : S[r0]? = some (.dT false (struckD sk))) (hv : ValsOf sk dn) (p : Pa) : dInVals p.D (.loc r0) S = .ok (.bl (decide (p ∈ dn))) S := by
  have e1 : (struckD sk).map (·.2) = (dn.map Pa.row).map rowD := by
    rw [← hv]
    unfold struckD
    rw [List.map_map, List.map_map, List.map_map]
    rfl
  have e2 : toPyDs ((struckD sk).map (·.2)) = some ((dn.map Pa.row).map fun k => .tuple (k.map keyPy)) := by rw [e1]; exact py_rows _
  have e3 : toPy p.D S = some (.tuple (p.row.map keyPy)) := by
    have := rowPyV p
    rw [show p.D = .tup (p.row.map keyD) from rfl] at this ⊢
    exact this
  have e4 : PyData.plainAll ((dn.map Pa.row).map fun k => .tuple (k.map keyPy)) = true := plain_rows _
  have e5 : (PyData.tuple (p.row.map keyPy)).plain = true := by
    have := plain_rows [p.row]
    simpa [PyData.plainAll] using this
  have e6 : (PyData.tuple (p.row.map keyPy)).depth ≤ 64 := by
    have := depth_keys p.row
    simp only [PyData.depth]
    omega
  unfold dInVals
  simp only [hs, e2, e3, e4, e5, e6, Bool.and_self, decide_true, if_true]
  rw [any_rows, memB_map Pa.row (fun a b h => row_inj.mp h)]
theorem RepV.push {S2 : Sto} {x : Str × St} (R2 : RepV S2 c0 ℓ b D x.2) (hw : x.2.words.length ≤ 1000) : dAppend (.loc (c0 + 2)) [.str x.1] S2 = .ok .non (S2.set (c0 + 2) (.lst (x.2.words.map .str ++ [.str x.1]))) ∧ RepV (S2.set (c0 + 2) (.lst (x.2.words.map .str ++ [.str x.1]))) c0 ℓ b D { x.2 with words := x.2.words ++ [x.1] } :=
  ⟨app_list R2.wo (by rw [List.length_map]; omega), R2.words x.1⟩
def PInv1 (S : Sto) (b : Be) (sk : List (Pa × Pa)) (dn ps : List Pa) (pv : Z.D) (r0 : Nat) (qs : List Pa) (τ : Tau) (S' : Sto) : Prop :=
  ∃ (y : Option Z.D) (pre : List Pa) (ℓ : Int → Nat) (D : Int), τ = [some b.D, some pv, some (.loc r0), y, some (.loc S.length), some (.loc (S.length + 1)), some (.loc (S.length + 2)), some (.loc (S.length + 3))] ∧ ps = pre ++ qs ∧ Fr S.length S S' ∧ (0 ≤ D ∧ D ≤ 60) ∧ (∀ q ∈ qs, D ≤ q.day) ∧ qs.Pairwise (fun a b => a.day ≤ b.day) ∧ OkS b D pre.length (pre.foldl (step b sk dn) St.nil) ∧ (pre.foldl (step b sk dn) St.nil).strike = none ∧ Both b sk (pre.foldl (step b sk dn) St.nil) ∧ RepV S' S.length ℓ b D (pre.foldl (step b sk dn) St.nil)
theorem pass1_ok (hB : OkB b) (h1s : OneSit b) (hl : b.ts.length ≤ 1000) (hR : Rl ps) (hps : ∀ S, itemsOf pv S = some ⟨ps.map Pa.D, []⟩) (hs : S[r0]? = some (.dT false (struckD sk))) (hv : ValsOf sk dn) :
    ∃ S', V1.m_law_pass [b.D, pv, .loc r0] S = .ok (.tup [.loc (S.length + 2), .loc S.length, .loc (S.length + 3), optStr (pass b sk dn ps).strike]) S' ∧ Fr S.length S S' ∧ ((pass b sk dn ps).strike = none → ∃ ℓ, RepV S' S.length ℓ b 60 (pass b sk dn ps)) ∧ (∀ p j, (pass b sk dn ps).strike = some (p, some j) → valG sk j = none) := by
  suffices hh : wpR (V1.m_law_pass [b.D, pv, .loc r0] S) (fun v S' => v = .tup [.loc (S.length + 2), .loc S.length, .loc (S.length + 3), optStr (pass b sk dn ps).strike] ∧ Fr S.length S S' ∧ ((pass b sk dn ps).strike = none → ∃ ℓ, RepV S' S.length ℓ b 60 (pass b sk dn ps)) ∧ (∀ p j, (pass b sk dn ps).strike = some (p, some j) → valG sk j = none)) by
    cases ho : V1.m_law_pass [b.D, pv, .loc r0] S with
    | ok v S' => rw [ho] at hh; obtain ⟨rfl, h1⟩ := hh; exact ⟨S', rfl, h1⟩
    | ex n fs S' => rw [ho] at hh; exact hh.elim
    | bad => rw [ho] at hh; exact hh.elim
  have hrlt := lt_of_at hs
  unfold V1.m_law_pass
  rw [x_run, wpS_seq]
  refine ⟨rfl, ?_⟩
  simp [bindT, setAll, hz, hps]
  have hR0 : RepV (S ++ [.dK false [], .lst [], .lst [], .lst []]) S.length (fun _ => 0) b 0 St.nil := {
    ca := by simp; rfl
    pa := by simp [St.nil]
    wo := by simp [St.nil]
    lo := by simp [St.nil]
    ce := fun x hx => by cases hx
    inj := fun x hx => by cases hx
    nd := List.nodup_nil }
  refine for_src (PInv1 S b sk dn ps pv r0) (fun _ _ S _ => keep_nil S) ?_ ?_ ps _ _ ⟨none, [], _, 0, rfl, rfl, Fr.app (Nat.le_refl _), ⟨by decide, by decide⟩, fun q hq => (okP_day (hR.ok q hq)).1, hR.so, okS_nil b 0, rfl, ⟨fun q => by have := hB.pled.1; show (0 : Int) ≤ _; omega, fun x hx => by cases hx⟩, hR0⟩
  · rintro p qs τ S' ⟨y, pre, ℓ, D, rfl, e, hf, hD, hq, hso, hS, hs0, hBo, R1⟩
    have hp := hR.ok p (by rw [e]; simp)
    have hdp := okP_day hp
    have hd := hq p (by simp)
    have hso2 := List.pairwise_cons.mp hso
    have hln := hR.ln
    have hkl : pre.length < 1000 := by rw [e] at hln; simp at hln; omega
    have e2 : ps = (pre ++ [p]) ++ qs := by simp [e]
    have hS' : OkS b p.day (pre ++ [p]).length ((pre ++ [p]).foldl (step b sk dn) St.nil) := by
      rw [List.foldl_append]
      have := step_okS (sk := sk) (dn := dn) hS hB hp hd hD.1
      simpa using this
    have hBo' : Both b sk ((pre ++ [p]).foldl (step b sk dn) St.nil) := by
      rw [List.foldl_append]
      exact step_b (p := p) hBo hS hB
    refine ⟨_, rfl, ?_⟩
    have hpass : pass b sk dn ps = qs.foldl (step b sk dn) (step b sk dn (pre.foldl (step b sk dn) St.nil) p) := by
      unfold pass; rw [e, List.foldl_append, List.foldl_cons]
    generalize hst0 : pre.foldl (step b sk dn) St.nil = st at *
    have hfold : (pre ++ [p]).foldl (step b sk dn) St.nil = step b sk dn st p := by simp [hst0]
    rw [hfold] at hS' hBo'
    have hstep : step b sk dn st p = { (rd b sk dn st p).2 with words := (rd b sk dn st p).2.words ++ [(rd b sk dn st p).1] } := if_neg (by simp [hs0])
    have hin : inP p.D (.loc r0) S' = some (valG sk p).isSome := in_struck (hf.at hrlt hs)
    have hwl : (rd b sk dn st p).2.words.length ≤ 1000 := by rw [rd_words]; have := hS.l3; omega
    have ty := isTy_list R1.wo
    have hl1 := hS.l1
    -- what comes behind a word
    have next : ∀ (τ : Tau) S2 ℓ2, τ = [some b.D, some pv, some (.loc r0), some p.D, some (.loc S.length), some (.loc (S.length + 1)), some (.loc (S.length + 2)), some (.loc (S.length + 3))] → Fr S.length S' S2 → RepV S2 S.length ℓ2 b p.day (rd b sk dn st p).2 → (rd b sk dn st p).2.strike = none → wpR (dAppend (.loc (S.length + 2)) [.str (rd b sk dn st p).1] S2) fun _ S3 => PInv1 S b sk dn ps pv r0 qs τ S3 := fun τ S2 ℓ2 hτ f2 R2 hs2 => by
      obtain ⟨ea, R3⟩ := R2.push hwl
      rw [ea]
      subst hτ
      refine ⟨_, pre ++ [p], ℓ2, p.day, rfl, e2, (hf.trans f2).trans (Fr.set (by omega)), hdp, hso2.1, hso2.2, by rw [hfold]; exact hS', ?_, by rw [hfold]; exact hBo', ?_⟩
      · rw [hfold, hstep]; exact hs2
      · rw [hfold, hstep]; exact R3
    cases q0 : (valG sk p).isSome with
    | true =>
      have hrd : rd b sk dn st p = (Str.ofString "struck", st) := if_pos q0
      have nx := next _ S' ℓ rfl (Fr.refl _ _) (by rw [hrd]; exact R1.mono hd) (by rw [hrd]; exact hs0)
      rw [hrd] at nx
      simp [hin, q0, ty]
      exact nx
    | false =>
      have hrd : rd b sk dn st p = rdP b dn st p := by simp [rd, q0]
      rw [hrd] at next hstep hwl
      have hstrike : (∀ d n, p ≠ .aside d n) → (rdP b dn st p).2.strike = none := fun h => strike_only h hs0 hS
      cases p with
      | charge d n q e0 t =>
        have hp1 : ∀ S : Sto, dIxA (Pa.charge d n q e0 t).D (.int 1) S = .ok (.str "charge") S := fun _ => rfl
        obtain ⟨S2, ℓ2, e1, f2, R2⟩ := charge1_ok R1 (by omega) d n q e0 t
        have nx := next _ S2 ℓ2 rfl f2 (R2.mono hd) (hstrike fun _ _ h => by cases h)
        simp [hin, q0, ty, hp1, x_eqSS, e1]
        exact nx
      | pardon d q e0 =>
        have hd' : D ≤ d := hd
        have hp1 : ∀ S : Sto, dIxA (Pa.pardon d q e0).D (.int 1) S = .ok (.str "pardon") S := fun _ => rfl
        obtain ⟨S2, ℓ2, e1, f2, R2⟩ := pardon1_ok R1 hS (by omega) hd' q e0
        have nx := next _ S2 ℓ2 rfl f2 R2 (hstrike fun _ _ h => by cases h)
        simp [hin, q0, ty, hp1, x_eqSS, ofString_beq, b1, e1]
        exact nx
      | hold d n =>
        have hd' : D ≤ d := hd
        have hp1 : ∀ S : Sto, dIxA (Pa.hold d n).D (.int 1) S = .ok (.str "hold") S := fun _ => rfl
        have hp2 : ∀ S : Sto, dIxA (Pa.hold d n).D (.int 2) S = .ok (.int n) S := fun _ => rfl
        cases hc : valG st.causes n with
        | none =>
          have hrd2 : rdP b dn st (.hold d n) = (Str.ofString "unknown", st) := by simp [rdP, withC, hc]
          have nx := next _ S' ℓ rfl (Fr.refl _ _) (by rw [hrd2]; exact R1.mono hd) (by rw [hrd2]; exact hs0)
          rw [hrd2] at nx
          simp [hin, q0, ty, hp1, hp2, x_eqSS, ofString_beq, in_dKI R1.ca, valG_caD, hc]
          exact nx
        | some c =>
          obtain ⟨S2, ℓ2, e1, f2, R2⟩ := done_hold R1 hS hc hd'
          have hrd2 : rdP b dn st (.hold d n) = withC st n fun c => _ := rfl
          simp only [withC, hc] at hrd2
          rw [← hrd2] at e1 R2
          have nx := next _ S2 ℓ2 rfl f2 R2 (hstrike fun _ _ h => by cases h)
          simp [hin, q0, ty, hp1, hp2, x_eqSS, ofString_beq, in_dKI R1.ca, valG_caD, hc, e1]
          exact nx
      | pledge d n q =>
        have hd' : D ≤ d := hd
        have hp1 : ∀ S : Sto, dIxA (Pa.pledge d n q).D (.int 1) S = .ok (.str "pledge") S := fun _ => rfl
        have hp2 : ∀ S : Sto, dIxA (Pa.pledge d n q).D (.int 2) S = .ok (.int n) S := fun _ => rfl
        cases hc : valG st.causes n with
        | none =>
          have hrd2 : rdP b dn st (.pledge d n q) = (Str.ofString "unknown", st) := by simp [rdP, withC, hc]
          have nx := next _ S' ℓ rfl (Fr.refl _ _) (by rw [hrd2]; exact R1.mono hd) (by rw [hrd2]; exact hs0)
          rw [hrd2] at nx
          simp [hin, q0, ty, hp1, hp2, x_eqSS, ofString_beq, in_dKI R1.ca, valG_caD, hc]
          exact nx
        | some c =>
          obtain ⟨S2, ℓ2, e1, f2, R2⟩ := done_pledge R1 hS (by omega) hBo.1 hc hd' q
          have hrd2 : rdP b dn st (.pledge d n q) = withC st n fun c => _ := rfl
          simp only [withC, hc] at hrd2
          rw [← hrd2] at e1 R2
          have nx := next _ S2 ℓ2 rfl f2 R2 (hstrike fun _ _ h => by cases h)
          simp [hin, q0, ty, hp1, hp2, x_eqSS, ofString_beq, in_dKI R1.ca, valG_caD, hc, e1]
          exact nx
      | move d n t =>
        have hd' : D ≤ d := hd
        have hp1 : ∀ S : Sto, dIxA (Pa.move d n t).D (.int 1) S = .ok (.str "move") S := fun _ => rfl
        have hp2 : ∀ S : Sto, dIxA (Pa.move d n t).D (.int 2) S = .ok (.int n) S := fun _ => rfl
        cases hc : valG st.causes n with
        | none =>
          have hrd2 : rdP b dn st (.move d n t) = (Str.ofString "unknown", st) := by simp [rdP, withC, hc]
          have nx := next _ S' ℓ rfl (Fr.refl _ _) (by rw [hrd2]; exact R1.mono hd) (by rw [hrd2]; exact hs0)
          rw [hrd2] at nx
          simp [hin, q0, ty, hp1, hp2, x_eqSS, ofString_beq, in_dKI R1.ca, valG_caD, hc]
          exact nx
        | some c =>
          obtain ⟨S2, ℓ2, e1, f2, R2⟩ := done_move R1 hc hd' t
          have hrd2 : rdP b dn st (.move d n t) = withC st n fun c => _ := rfl
          simp only [withC, hc] at hrd2
          rw [← hrd2] at e1 R2
          have nx := next _ S2 ℓ2 rfl f2 R2 (hstrike fun _ _ h => by cases h)
          simp [hin, q0, ty, hp1, hp2, x_eqSS, ofString_beq, in_dKI R1.ca, valG_caD, hc, e1]
          exact nx
      | bill d n g =>
        have hd' : D ≤ d := hd
        have hp1 : ∀ S : Sto, dIxA (Pa.bill d n g).D (.int 1) S = .ok (.str "bill") S := fun _ => rfl
        have hp2 : ∀ S : Sto, dIxA (Pa.bill d n g).D (.int 2) S = .ok (.int n) S := fun _ => rfl
        cases hc : valG st.causes n with
        | none =>
          have hrd2 : rdP b dn st (.bill d n g) = (Str.ofString "unknown", st) := by simp [rdP, withC, hc]
          have nx := next _ S' ℓ rfl (Fr.refl _ _) (by rw [hrd2]; exact R1.mono hd) (by rw [hrd2]; exact hs0)
          rw [hrd2] at nx
          simp [hin, q0, ty, hp1, hp2, x_eqSS, ofString_beq, in_dKI R1.ca, valG_caD, hc]
          exact nx
        | some c =>
          obtain ⟨S2, ℓ2, e1, f2, R2⟩ := done_bill R1 h1s hl hc hd' g
          have hrd2 : rdP b dn st (.bill d n g) = withC st n fun c => _ := rfl
          simp only [withC, hc] at hrd2
          rw [← hrd2] at e1 R2
          have nx := next _ S2 ℓ2 rfl f2 R2 (hstrike fun _ _ h => by cases h)
          simp [hin, q0, ty, hp1, hp2, x_eqSS, ofString_beq, in_dKI R1.ca, valG_caD, hc, e1]
          exact nx
      | miss d n =>
        have hd' : D ≤ d := hd
        have hp1 : ∀ S : Sto, dIxA (Pa.miss d n).D (.int 1) S = .ok (.str "miss") S := fun _ => rfl
        have hp2 : ∀ S : Sto, dIxA (Pa.miss d n).D (.int 2) S = .ok (.int n) S := fun _ => rfl
        cases hc : valG st.causes n with
        | none =>
          have hrd2 : rdP b dn st (.miss d n) = (Str.ofString "unknown", st) := by simp [rdP, withC, hc]
          have nx := next _ S' ℓ rfl (Fr.refl _ _) (by rw [hrd2]; exact R1.mono hd) (by rw [hrd2]; exact hs0)
          rw [hrd2] at nx
          simp [hin, q0, ty, hp1, hp2, x_eqSS, ofString_beq, in_dKI R1.ca, valG_caD, hc]
          exact nx
        | some c =>
          obtain ⟨S2, ℓ2, e1, f2, R2⟩ := done_miss R1 h1s hl hS (by omega) hc hd'
          have hrd2 : rdP b dn st (.miss d n) = withC st n fun c => _ := rfl
          simp only [withC, hc] at hrd2
          rw [← hrd2] at e1 R2
          have nx := next _ S2 ℓ2 rfl f2 R2 (hstrike fun _ _ h => by cases h)
          simp [hin, q0, ty, hp1, hp2, x_eqSS, ofString_beq, in_dKI R1.ca, valG_caD, hc, e1]
          exact nx
      | over d n =>
        have hd' : D ≤ d := hd
        have hp1 : ∀ S : Sto, dIxA (Pa.over d n).D (.int 1) S = .ok (.str "over") S := fun _ => rfl
        have hp2 : ∀ S : Sto, dIxA (Pa.over d n).D (.int 2) S = .ok (.int n) S := fun _ => rfl
        cases hc : valG st.causes n with
        | none =>
          have hrd2 : rdP b dn st (.over d n) = (Str.ofString "unknown", st) := by simp [rdP, withC, hc]
          have nx := next _ S' ℓ rfl (Fr.refl _ _) (by rw [hrd2]; exact R1.mono hd) (by rw [hrd2]; exact hs0)
          rw [hrd2] at nx
          simp [hin, q0, ty, hp1, hp2, x_eqSS, ofString_beq, in_dKI R1.ca, valG_caD, hc]
          exact nx
        | some c =>
          obtain ⟨S2, ℓ2, e1, f2, R2⟩ := done_over R1 h1s hl hc hd'
          have hrd2 : rdP b dn st (.over d n) = withC st n fun c => _ := rfl
          simp only [withC, hc] at hrd2
          rw [← hrd2] at e1 R2
          have nx := next _ S2 ℓ2 rfl f2 R2 (hstrike fun _ _ h => by cases h)
          simp [hin, q0, ty, hp1, hp2, x_eqSS, ofString_beq, in_dKI R1.ca, valG_caD, hc, e1]
          exact nx
      | judge d n g =>
        have hd' : D ≤ d := hd
        have hp1 : ∀ S : Sto, dIxA (Pa.judge d n g).D (.int 1) S = .ok (.str "judge") S := fun _ => rfl
        have hp2 : ∀ S : Sto, dIxA (Pa.judge d n g).D (.int 2) S = .ok (.int n) S := fun _ => rfl
        have hg : g = 0 ∨ g = 1 := by have := hp.2.2; omega
        cases hc : valG st.causes n with
        | none =>
          have hrd2 : rdP b dn st (.judge d n g) = (Str.ofString "unknown", st) := by simp [rdP, withC, hc]
          have nx := next _ S' ℓ rfl (Fr.refl _ _) (by rw [hrd2]; exact R1.mono hd) (by rw [hrd2]; exact hs0)
          rw [hrd2] at nx
          simp [hin, q0, ty, hp1, hp2, x_eqSS, ofString_beq, in_dKI R1.ca, valG_caD, hc]
          exact nx
        | some c =>
          obtain ⟨S2, ℓ2, e1, f2, R2⟩ := done_judge R1 h1s hl (by omega) hc hd' hg
          have hrd2 : rdP b dn st (.judge d n g) = withC st n fun c => _ := rfl
          simp only [withC, hc] at hrd2
          rw [← hrd2] at e1 R2
          have nx := next _ S2 ℓ2 rfl f2 R2 (hstrike fun _ _ h => by cases h)
          simp [hin, q0, ty, hp1, hp2, x_eqSS, ofString_beq, in_dKI R1.ca, valG_caD, hc, e1]
          exact nx
      | aside d n =>
        have hd' : D ≤ d := hd
        have hp1 : ∀ S : Sto, dIxA (Pa.aside d n).D (.int 1) S = .ok (.str "aside") S := fun _ => rfl
        have hp2 : ∀ S : Sto, dIxA (Pa.aside d n).D (.int 2) S = .ok (.int n) S := fun _ => rfl
        have hvv := in_vals (hf.at hrlt hs) hv (.aside d n)
        cases hc : valG st.causes n with
        | none =>
          have hrd2 : rdP b dn st (.aside d n) = (Str.ofString "unknown", st) := by simp [rdP, withC, hc]
          have nx := next _ S' ℓ rfl (Fr.refl _ _) (by rw [hrd2]; exact R1.mono hd) (by rw [hrd2]; exact hs0)
          rw [hrd2] at nx
          simp [hin, q0, ty, hp1, hp2, x_eqSS, ofString_beq, in_dKI R1.ca, valG_caD, hc]
          exact nx
        | some c =>
          have hrd2 : rdP b dn st (.aside d n) = doAside dn st (.aside d n) c := by simp [rdP, withC, hc]
          obtain ⟨c1, g1, g2, g3⟩ := R1.cause hc
          have hk2 : S'[ℓ n]? = some (.dK false c1.kw) := g1
          have k0 : valG c1.kw (.inr ("word" : Str)) = some (.str c.word.s) := by rw [kw_word, g2.fields.1]
          have k1 : valG c1.kw (.inr ("by" : Str)) = some (byD c.byp) := by rw [kw_by, g2.fields.2.2.2.2.2.2.2]
          by_cases q1 : Pa.aside d n ∈ dn
          · have hrd3 : rdP b dn st (.aside d n) = (Str.ofString "takes", st) := by rw [hrd2]; unfold doAside; rw [if_pos q1]
            have nx := next _ S' ℓ rfl (Fr.refl _ _) (by rw [hrd3]; exact R1.mono hd) (by rw [hrd3]; exact hs0)
            rw [hrd3] at nx
            simp [hin, q0, ty, hp1, hp2, x_eqSS, ofString_beq, in_dKI R1.ca, valG_caD, hc, hvv, q1]
            exact nx
          · cases q2 : c.word.judged with
            | false =>
              have hrd3 : rdP b dn st (.aside d n) = (Str.ofString "unjudged", st) := by rw [hrd2]; unfold doAside; rw [if_neg q1, if_pos q2]
              have nx := next _ S' ℓ rfl (Fr.refl _ _) (by rw [hrd3]; exact R1.mono hd) (by rw [hrd3]; exact hs0)
              rw [hrd3] at nx
              simp [hin, q0, ty, hp1, hp2, x_eqSS, ofString_beq, in_dKI R1.ca, valG_caD, hc, hvv, q1, x_ixKI R1.ca, x_ixKS hk2, k0, in_judgedT, q2, hz]
              exact nx
            | true =>
              have hrd3 : rdP b dn st (.aside d n) = (Str.ofString "takes", { st with strike := some (.aside d n, c.byp) }) := by rw [hrd2]; unfold doAside; rw [if_neg q1, if_neg (by simp [q2])]
              have hfin : pass b sk dn ps = step b sk dn st (.aside d n) := by
                rw [hpass, fold_strike]
                rw [hstep, hrd3]; rfl
              have hst : (pass b sk dn ps).strike = some (.aside d n, c.byp) := by rw [hfin, hstep, hrd3]
              simp [hin, q0, ty, hp1, hp2, x_eqSS, ofString_beq, in_dKI R1.ca, valG_caD, hc, hvv, q1, x_ixKI R1.ca, x_ixKS hk2, k0, k1, in_judgedT, q2, hz, hst]
              refine ⟨rfl, hf, fun p j hpj hj => ?_⟩
              exact hBo.2 _ (valG_mem hc) j hj
  · rintro τ S' ⟨y, pre, ℓ, D, rfl, e, hf, hD, hq, hso, hS, hs0, hBo, R1⟩
    have e : ps = pre := by simpa using e
    subst e
    have hp : pass b sk dn ps = ps.foldl (step b sk dn) St.nil := rfl
    rw [hp, hs0]
    simp [hz, optStr]
    exact ⟨hf, ℓ, R1.mono hD.2⟩
end Sp

/-! StG: the older reading, whole. -/
namespace Sp
open PySem L2 Z
variable [Rz]
variable {S : Sto} {c0 r0 : Nat} {ℓ : Int → Nat} {b : Be} {sk : List (Pa × Pa)} {dn ps : List Pa} {pv : Z.D} {st : St} {c c1 : Ca} {D d n : Int} {k : Nat}
def WInv1 (S : Sto) (b : Be) (ps : List Pa) (pv : Z.D) (m : Nat) (τ : Tau) (S' : Sto) : Prop :=
  ∃ (x3 x4 x5 x6 : Option Z.D) (sk : List (Pa × Pa)) (dn : List Pa), τ = [some b.D, some pv, some (.loc S.length), x3, x4, x5, x6] ∧ Fr S.length S S' ∧ S'[S.length]? = some (.dT false (struckD sk)) ∧ ValsOf sk dn ∧ 1 ≤ m ∧ loop b ps (m - 1) sk dn = readAll b ps ∧ asides ps dn ≤ m - 1 ∧ sk.length + m ≤ ps.length + 1
theorem read1_ok (hB : OkB b) (h1s : OneSit b) (hl : b.ts.length ≤ 1000) (hR : Rl ps) (hps : ∀ S, itemsOf pv S = some ⟨ps.map Pa.D, []⟩) (S : Sto) :
    ∃ (S' : Sto) (c0 : Nat) (ℓ : Int → Nat), V1.m_law_read [b.D, pv] S = .ok (.tup [.loc (c0 + 2), .loc c0, .loc (c0 + 3), .loc S.length]) S' ∧ Fr S.length S S' ∧ S.length < c0 ∧ RepV S' c0 ℓ b 60 (reading b ps) ∧ S'[S.length]? = some (.dT false (struckD (readAll b ps).2.1)) := by
  suffices hh : wpR (V1.m_law_read [b.D, pv] S) (fun v S' => ∃ (c0 : Nat) (ℓ : Int → Nat), v = .tup [.loc (c0 + 2), .loc c0, .loc (c0 + 3), .loc S.length] ∧ Fr S.length S S' ∧ S.length < c0 ∧ RepV S' c0 ℓ b 60 (reading b ps) ∧ S'[S.length]? = some (.dT false (struckD (readAll b ps).2.1))) by
    cases ho : V1.m_law_read [b.D, pv] S with
    | ok v S' => rw [ho] at hh; obtain ⟨c0, ℓ, rfl, h1⟩ := hh; exact ⟨S', c0, ℓ, rfl, h1⟩
    | ex n fs S' => rw [ho] at hh; exact hh.elim
    | bad => rw [ho] at hh; exact hh.elim
  unfold V1.m_law_read
  rw [x_run, wpS_seq]
  refine ⟨rfl, ?_⟩
  simp
  refine while_wp (WInv1 S b ps pv) ?_ (ps.length + 1) _ _ ⟨none, none, none, none, [], [], rfl, ⟨by simp, fun i hi => by rw [List.getElem?_append_left hi]⟩, by simp; rfl, rfl, by omega, rfl, by unfold asides; exact List.length_filter_le _ _, by simp⟩
  rintro m τ S' ⟨x3, x4, x5, x6, sk, dn, rfl, hf, h1, hv, h0, h3, h4, h5⟩
  obtain ⟨m, rfl⟩ : ∃ k, m = k + 1 := ⟨m - 1, by omega⟩
  rw [Nat.add_sub_cancel] at h3 h4
  have hn : S.length < S'.length := lt_of_at h1
  have hln := hR.ln
  obtain ⟨pS, pK⟩ := pass_ok (sk := sk) (dn := dn) hB hR
  obtain ⟨S2, e1, f2, hr2, hj2⟩ := pass1_ok hB h1s hl hR hps h1 hv
  have h1' : S2[S.length]? = some (.dT false (struckD sk)) := f2.at hn h1
  cases hs : (pass b sk dn ps).strike with
  | none =>
    have hlp : loop b ps m sk dn = (pass b sk dn ps, sk, dn) := by
      cases m with
      | zero => rfl
      | succ m => simp [loop, hs]
    have hr : readAll b ps = (pass b sk dn ps, sk, dn) := h3.symm.trans hlp
    have hrr : reading b ps = pass b sk dn ps := by unfold reading; rw [hr]
    obtain ⟨ℓ, R2⟩ := hr2 hs
    rw [hs] at e1
    simp [e1, bindT, setAll, optStr, dIsN, Z.isNon, hz]
    exact ⟨hf.trans (f2.mono (by omega)), hn, ⟨ℓ, by rw [hrr]; exact R2⟩, by rw [hr]; exact h1'⟩
  | some q =>
    obtain ⟨d, g, n, d', e, hnd, hmem⟩ := pK q hs
    subst e
    have hlt := asides_lt hmem hnd
    cases m with
    | zero => omega
    | succ m =>
      have hlp : loop b ps (m + 1) sk dn = loop b ps m (putG sk (.judge d n g) (.aside d' n)) (dn ++ [.aside d' n]) := by
        rw [loop, hs]; rfl
      have hnew := hj2 _ _ hs
      have hput : putG sk (.judge d n g) (.aside d' n) = sk ++ [(.judge d n g, .aside d' n)] := putG_new hnew
      have ep : dPut (.loc S.length) (Pa.judge d n g).D (Pa.aside d' n).D S2 = some (S2.set S.length (.dT false (struckD (putG sk (.judge d n g) (.aside d' n))))) := by
        rw [← put_struck]
        exact put_T (k := (Pa.judge d n g).row) h1' (by simp [struckD]; omega)
      rw [hs] at e1
      have hpl := putG_len sk (.judge d n g) (.aside d' n)
      have es : optStr (some (Pa.aside d' n, some (Pa.judge d n g))) = .tup [(Pa.aside d' n).D, (Pa.judge d n g).D] := rfl
      rw [es] at e1
      simp [e1, bindT, setAll, dIsN, Z.isNon, hz, at0, at1, ep]
      refine ⟨_, _, _, _, putG sk (.judge d n g) (.aside d' n), dn ++ [.aside d' n], rfl, ?_, at_set h1', ?_, by omega, hlp ▸ h3, by omega, by omega⟩
      · exact (hf.trans (f2.mono (by omega))).trans (Fr.set (Nat.le_refl _))
      · unfold ValsOf at hv ⊢
        rw [hput, List.map_append, hv]
        rfl
end Sp

/-! SqE: why, of every paper; what a paper does. -/
namespace Sp
open PySem L2 Z
variable [Rz]
variable {S : Sto} {c0 : Nat} {ℓ : Int → Nat} {b : Be} {dn : List Pa} {dv : Z.D} {st : St} {c : Ca} {D d n : Int} {k : Nat}
end Sp

/-! SqF: what a paper does. -/
namespace Sp
open PySem L2 Z
variable [Rz]
variable {S : Sto} {c0 : Nat} {ℓ : Int → Nat} {b : Be} {dn : List Pa} {dv : Z.D} {st : St} {c : Ca} {D d n : Int} {k l : Nat}
section
variable (h : S[l]? = some c.dk)
include h
end
end Sp

/-! SqG: do, of every paper that takes. -/
namespace Sp
open PySem L2 Z
variable [Rz]
variable {S : Sto} {c0 : Nat} {ℓ : Int → Nat} {b : Be} {dn : List Pa} {dv : Z.D} {st : St} {c : Ca} {D d n : Int} {k l : Nat}
end Sp

/-! SqH: do, the whole. -/
namespace Sp
open PySem L2 Z
variable [Rz]
variable {S : Sto} {c0 : Nat} {ℓ : Int → Nat} {b : Be} {dn : List Pa} {dv : Z.D} {st : St} {c : Ca} {D d n : Int} {k l : Nat}
end Sp

/-! SqI: the law's own pass. -/
namespace Sp
open PySem L2 Z
variable [Rz]
variable {S : Sto} {c0 : Nat} {ℓ : Int → Nat} {b : Be} {sk : List (Pa × Pa)} {dn : List Pa} {dv sv pv : Z.D} {st : St} {c : Ca} {D d n : Int} {k l : Nat}
end Sp

/-! SqJ: the law's own reading, the whole. -/
namespace Sp
open PySem L2 Z
variable [Rz]
variable {S : Sto} {c0 : Nat} {ℓ : Int → Nat} {b : Be} {sk : List (Pa × Pa)} {dn : List Pa} {dv sv pv : Z.D} {st : St} {c : Ca} {D d n : Int} {k l : Nat}
end Sp

/-! SrA: benches known. -/
namespace Sp
open PySem L2 Z
variable [Rz]
theorem within_ok {d : D} (h : Has d) (lo hi : Int) (S : Sto) : Pg.m_is_within [d, .int lo, .int hi] S = .ok (.bl (num d lo hi)) S := by
  obtain ⟨p, h⟩ := h
  refine wp_eq ?_
  unfold Pg.m_is_within
  simp [isa_int h, isa_bool h]
  cases d <;> simp [isIntD, isBlD, num]
  rename_i i
  by_cases q : lo ≤ i <;> simp [q] <;> omega
theorem upto_ok {d : D} (h : Has d) (n : Int) (S : Sto) : Pg.m_is_upto [d, .int n] S = .ok (.bl (num d 0 (n - 1))) S := by
  refine wp_eq ?_
  unfold Pg.m_is_upto
  simp [within_ok h]
def fsI : D → Int
  | .tup [a, _, _] => iv a
  | _ => 0
def snI : D → Int
  | .tup [_, b, _] => iv b
  | _ => 0
def sit : D → Bool
  | .tup [a, b, c] => num a 0 60 && num b 0 60 && decide (iv a ≤ iv b) && num c 0 3
  | _ => false
theorem sit_no {ds : List D} (h : ds.length ≠ 3) : sit (.tup ds) = false := by
  match ds, h with
  | [], _ => rfl
  | [_], _ => rfl
  | [_, _], _ => rfl
  | [_, _, _], h => exact absurd rfl h
  | _ :: _ :: _ :: _ :: _, _ => rfl
theorem sitting_ok {d : D} (h : Has d) (S : Sto) : Pg.m_is_sitting [d] S = .ok (.bl (sit d)) S := by
  obtain ⟨p, hp⟩ := h
  refine wp_eq ?_
  unfold Pg.m_is_sitting
  simp [isa_tup hp]
  cases d
  case tup ds =>
    simp [isTupD]
    by_cases q : ds.length = 3
    · obtain ⟨a, b, c, rfl⟩ := three q
      have hh := has_tup ⟨p, hp⟩
      have ha := hh a (by simp)
      have hb := hh b (by simp)
      have hc := hh c (by simp)
      simp [at0, at1, at2, upto_ok ha, upto_ok hb, upto_ok hc, sit]
      cases na : num a 0 60 <;> simp
      cases nb : num b 0 60 <;> simp
      obtain ⟨i, rfl, _, _⟩ := num_int na
      obtain ⟨j, rfl, _, _⟩ := num_int nb
      by_cases g : i ≤ j <;> simp [iv, g]
    · have q2 : (ds.length : Int) ≠ 3 := by omega
      simp [q2, sit_no q]
  all_goals simp [isTupD, sit]
def chn (ds : List D) : Bool := (List.zipWith (fun a b => D.tup [a, b]) ds (cutD ds (some 1) none)).all fun x => match x with | .tup [a, b] => decide (snI a < fsI b) | _ => false
def rnd : D → Bool
  | .tup ds => decide (1 ≤ ds.length) && decide (ds.length ≤ 8) && ds.all sit && chn ds
  | _ => false
theorem sit_ints {d : D} (h : sit d = true) : ∃ i j k : Int, d = .tup [.int i, .int j, .int k] ∧ 0 ≤ i ∧ i ≤ j ∧ j ≤ 60 ∧ 0 ≤ k ∧ k ≤ 3 := by
  unfold sit at h
  split at h
  · rename_i a b c
    simp only [Bool.and_eq_true, decide_eq_true_eq] at h
    obtain ⟨i, rfl, h1, _⟩ := num_int h.1.1.1
    obtain ⟨j, rfl, _, h2⟩ := num_int h.1.1.2
    obtain ⟨k, rfl, h3, h4⟩ := num_int h.2
    exact ⟨i, j, k, rfl, h1, h.1.2, h2, h3, h4⟩
  · cases h
def cmp2 (x : D) : Bool := match x with | .tup [a, b] => decide (snI a < fsI b) | _ => false
theorem chn_eq (ds : List D) : chn ds = (List.zipWith (fun a b => D.tup [a, b]) ds (cutD ds (some 1) none)).all cmp2 := rfl
theorem rnd_no {ds : List D} (h : ¬(1 ≤ ds.length ∧ ds.length ≤ 8 ∧ ds.all sit = true)) : rnd (.tup ds) = false := by
  cases q : rnd (.tup ds) with
  | false => rfl
  | true =>
    simp only [rnd, Bool.and_eq_true, decide_eq_true_eq] at q
    exact absurd ⟨q.1.1.1, q.1.1.2, q.1.2⟩ h
theorem round_ok {d : D} (h : Has d) (S : Sto) : Pg.m_is_round [d] S = .ok (.bl (rnd d)) S := by
  obtain ⟨p, hp⟩ := h
  refine wp_eq ?_
  unfold Pg.m_is_round
  simp [isa_tup hp]
  cases d
  case tup ds =>
    simp only [isTupD]
    have hh := has_tup ⟨p, hp⟩
    have e1 : lcL [] (Tgt.nm 1) [1] tYesM (mCall Pg.m_is_sitting (aCons (mVar 1) aNil)) ds [some (D.tup ds), none, none] S = .ok (ds.map fun d => D.bl (sit d)) S := lc_map (fun d => .bl (sit d)) ds fun d hd => ⟨_, rfl, by simp [wipeT, sitting_ok (hh d hd)]⟩
    by_cases q1 : 1 ≤ ds.length
    · have z1 : (1 : Int) ≤ ds.length := by omega
      by_cases q2 : ds.length ≤ 8
      · have z2 : (ds.length : Int) ≤ 8 := by omega
        have z3 : ds.length ≤ sizeLine := by have : sizeLine = 16777216 := rfl; omega
        cases q3 : ds.all sit with
        | false =>
          have e := rnd_no (ds := ds) fun h => by rw [h.2.2] at q3; cases q3
          simp [z1, z2, z3, e1, all_map, q3, e]
        | true =>
          have e : rnd (.tup ds) = chn ds := by simp only [rnd, q1, q2, q3, decide_true, Bool.and_self, Bool.true_and]
          have hs : ∀ x ∈ ds, sit x = true := List.all_eq_true.mp q3
          have ezip : zipA [D.tup ds, D.tup (cutD ds (some 1) none)] S = some ⟨List.zipWith (fun a b => .tup [a, b]) ds (cutD ds (some 1) none), []⟩ := rfl
          have el : lcL [] (Tgt.tp [1, 2]) [1, 2] tYesM (mBin dLt (mBin dIxA (mVar 1) (mC (D.int 1))) (mBin dIxA (mVar 2) (mC (D.int 0)))) (List.zipWith (fun a b => D.tup [a, b]) ds (cutD ds (some 1) none)) [some (D.tup ds), none, none] S = .ok (_) S := lc_map (fun x => .bl (cmp2 x)) _ fun x hx => by
            obtain ⟨a, b, rfl, ha, hb⟩ := zip_mem hx
            obtain ⟨i, j, k, rfl, _⟩ := sit_ints (hs a ha)
            obtain ⟨i2, j2, k2, rfl, _⟩ := sit_ints (hs b (cutD_mem hb))
            exact ⟨[some (D.tup ds), some (.tup [.int i, .int j, .int k]), some (.tup [.int i2, .int j2, .int k2])], rfl, by simp [at1, at0, cmp2, snI, fsI, iv]; rfl⟩
          have hl : (List.zipWith (fun a b => D.tup [a, b]) ds (cutD ds (some 1) none)).length ≤ sizeLine := by rw [List.length_zipWith]; omega
          rw [chn_eq] at e
          generalize List.zipWith (fun a b => D.tup [a, b]) ds (cutD ds (some 1) none) = zs at *
          simp [z1, z2, z3, e1, q3, e, ezip, el, hl, all_map, chn_eq]
      · have z2 : ¬ (ds.length : Int) ≤ 8 := by omega
        have e := rnd_no (ds := ds) fun h => q2 h.2.1
        simp [z1, z2, e]
    · have z1 : ¬ (1 : Int) ≤ ds.length := by omega
      have e := rnd_no (ds := ds) fun h => q1 h.1
      simp [z1, e]
  all_goals simp [isTupD, rnd]
def bch : D → Bool
  | .tup [a, b, c, e] => rnd a && num b 1 20 && num c 0 3 && num e 1 3
  | _ => false
theorem bch_no {ds : List D} (h : ds.length ≠ 4) : bch (.tup ds) = false := by
  unfold bch
  split
  · rename_i e; cases e; exact absurd rfl h
  · rfl
theorem bench_ok {d : D} (h : Has d) (S : Sto) : Pg.m_is_bench [d] S = .ok (.bl (bch d)) S := by
  obtain ⟨p, hp⟩ := h
  refine wp_eq ?_
  unfold Pg.m_is_bench
  simp [isa_tup hp]
  cases d
  case tup ds =>
    simp [isTupD]
    by_cases q : ds.length = 4
    · obtain ⟨a, b, c, e, rfl⟩ := four q
      have hh := has_tup ⟨p, hp⟩
      have ha := hh a (by simp)
      have hb := hh b (by simp)
      have hc := hh c (by simp)
      have he := hh e (by simp)
      simp [bch, at0, at1, at2, at3, round_ok ha, within_ok hb, within_ok hc, within_ok he]
      cases rnd a <;> cases num b 1 20 <;> cases num c 0 3 <;> simp
    · have q2 : (ds.length : Int) ≠ 4 := by omega
      simp [q2, bch_no q]
  all_goals simp [isTupD, bch]
end Sp

/-! SrB: papers and rolls known. -/
namespace Sp
open PySem L2 Z
def forms : List (Str × List Int) := [("charge", [6, 6, 4, 4]), ("bill", [6, 2]), ("hold", [6]), ("pledge", [6, 6]), ("miss", [6]), ("over", [6]), ("move", [6, 4]), ("judge", [6, 2]), ("pardon", [6, 4]), ("aside", [6])]
def formD (ms : List Int) : Z.D := .ktup (ms.map .int)
theorem kd_eq : Pg.kd_FORMS = forms.map fun x => (x.1, formD x.2) := rfl
theorem valG_snd {κ α β : Type} [DecidableEq κ] (g : α → β) (k : κ) : ∀ kvs : List (κ × α), valG (kvs.map fun x => (x.1, g x.2)) k = (valG kvs k).map g
  | [] => rfl
  | p :: r => by
    rw [List.map_cons, valG_cons, valG_cons, valG_snd g k r]
    split <;> simp_all
def fits (r : List Z.D) (ms : List Int) : Bool := (r.zip ms).all fun y => num y.1 0 (y.2 - 1)
def isPa (d : Z.D) : Bool := match d with
  | .tup (x :: .str w :: r) => (match valG forms w with
    | some ms => decide (r.length = ms.length) && num x 0 60 && fits r ms
    | none => false)
  | _ => false
theorem cut_fr1 {a : Z.D} {r : List Z.D} : cutD (a :: r) (some 1) none = r := by
  unfold cutD
  have e1 : HT.sIx (a :: r).length 0 (some 1) = min 1 _ := HT.sIx_nat _ _ 1
  have e2 : HT.sIx (a :: r).length (a :: r).length none = (a :: r).length := rfl
  rw [e1, e2]
  have : min 1 (a :: r).length = 1 := by simp only [List.length_cons]; omega
  rw [this]
  simp
theorem x_lenK (ds : List Z.D) (S : Sto) : dLen [.ktup ds] S = .ok (.int ds.length) S := by rfl
def isStrB : Z.D → Bool
  | .str _ => true
  | _ => false
theorem isa_str {d : Z.D} {p : PyData} {S : Sto} (h : toPyD d = some p) : dIsa [d, .ob (.ty "str")] S = .ok (.bl (isStrB d)) S := by
  show (match toPy d S with | some p => _ | none => _) = _
  rw [toPy_of h]
  cases d <;> simp only [toPyD, Option.some.injEq, Option.map_eq_some_iff, reduceCtorEq] at h <;> first | (subst h; rfl) | (obtain ⟨_, _, rfl⟩ := h; rfl)
theorem zip_ints : ∀ (r : List Z.D) (ms : List Int), List.zipWith (fun a b => Z.D.tup [a, b]) r (ms.map Z.D.int) = (r.zip ms).map fun y => .tup [y.1, .int y.2]
  | [], ms => by simp
  | x :: r, [] => by simp
  | x :: r, m :: ms => by simp [zip_ints r ms]
theorem zip_mem1 {α β : Type} {x : α × β} : ∀ {r : List α} {ms : List β}, x ∈ r.zip ms → x.1 ∈ r ∧ x.2 ∈ ms
  | [], _, h => by simp at h
  | a :: r, [], h => by simp at h
  | a :: r, m :: ms, h => by
    rw [List.zip_cons_cons, List.mem_cons] at h
    rcases h with rfl | h
    · exact ⟨by simp, by simp⟩
    · have := zip_mem1 h; exact ⟨by simp [this.1], by simp [this.2]⟩
theorem all_src {α : Type} (f : α → Bool) (as : List α) (S : Sto) : dAll [.lst (as.map fun d => Z.D.bl (f d))] S = .ok (.bl (as.all f)) S := by
  have : ∀ as : List α, boolsOf (as.map fun d => Z.D.bl (f d)) = some (as.map f) := fun as => by
    induction as with
    | nil => rfl
    | cons d ds ih => simp [boolsOf, ih]
  simp [dAll, listR, this]
theorem forms_len {w : Str} {ms : List Int} (h : valG forms w = some ms) : ms.length ≤ 4 := by
  have := valG_mem h
  simp only [forms, List.mem_cons, Prod.mk.injEq, List.not_mem_nil, or_false] at this
  rcases this with h | h | h | h | h | h | h | h | h | h <;> rw [h.2] <;> decide
variable [Rz]
theorem paper_ok {d : Z.D} (h : Has d) (S : Sto) : Pg.m_is_paper [d] S = .ok (.bl (isPa d)) S := by
  obtain ⟨p, hp⟩ := h
  refine wp_eq ?_
  unfold Pg.m_is_paper
  simp [isa_tup hp]
  cases d
  case tup ds =>
    simp only [isTupD]
    have hh := has_tup ⟨p, hp⟩
    match ds, hh with
    | [], _ => simp [isPa]
    | [x], _ => simp [isPa]
    | x :: y :: r, hh =>
      obtain ⟨py, hy⟩ := hh y (by simp)
      have hx := hh x (by simp)
      have z2 : ¬ ((r.length : Int) + 1 + 1 < 2) := by omega
      simp [at0, at1, isa_str hy, z2]
      cases y
      case str w =>
        simp [isStrB, kd_eq, valG_snd, isPa]
        cases e : valG forms w with
        | none => simp [dIsN, Z.isNon]
        | some ms =>
          have h4 := forms_len e
          by_cases q : r.length = ms.length
          · have q1 : (r.length : Int) + 1 + 1 = 2 + ms.length := by omega
            have q2 : (ms.length : Int) + 1 + 1 = 2 + ms.length := by omega
            cases q3 : num x 0 60 with
            | false => simp [dIsN, Z.isNon, formD, x_lenK, q, q2, upto_ok hx, q3]
            | true =>
              have ez : ∀ S, zipA [.tup (cutD (x :: .str w :: r) (some 2) none), .ktup (ms.map Z.D.int)] S = some ⟨(r.zip ms).map fun y => .tup [y.1, .int y.2], []⟩ := fun S => by
                rw [cut_fr2, ← zip_ints]; rfl
              have el : lcL [] (.tp [2, 3]) [2, 3] tYesM (mCall Pg.m_is_upto (aCons (mVar 2) (aCons (mVar 3) aNil))) ((r.zip ms).map fun y => .tup [y.1, .int y.2]) [some (.tup (x :: .str w :: r)), some (.ktup (ms.map Z.D.int)), none, none] S = .ok (((r.zip ms).filter fun _ => true).map fun y => .bl (num y.1 0 (y.2 - 1))) S :=
                lc_src (keep_nil S) (fun _ => true) (fun y : Z.D × Int => .bl (num y.1 0 (y.2 - 1))) _ fun y hy => ⟨_, rfl, rfl, fun _ => by
                  have hu : Has y.1 := hh y.1 (by simp [(zip_mem1 hy).1])
                  simp [wipeT, upto_ok hu]⟩
              have hf : ((r.zip ms).filter fun _ => true) = r.zip ms := by simp
              rw [hf] at el
              have hl : ((r.zip ms).map fun y : Z.D × Int => Z.D.tup [y.1, .int y.2]).length ≤ 16777216 := by simp; omega
              have ea := all_src (fun y : Z.D × Int => num y.1 0 (y.2 - 1)) (r.zip ms) S
              have efit : fits r ms = (r.zip ms).all fun y => num y.1 0 (y.2 - 1) := rfl
              rw [← efit] at ea
              generalize ((r.zip ms).map fun y : Z.D × Int => Z.D.tup [y.1, .int y.2]) = zs at *
              simp [dIsN, Z.isNon, formD, x_lenK, q, q2, upto_ok hx, q3, ez, hz, el, hl, ea]
          · have q1 : ¬ (r.length : Int) + 1 + 1 = 2 + ms.length := by omega
            simp [dIsN, Z.isNon, formD, x_lenK, q, q1]
      all_goals simp [isStrB, isPa]
  all_goals simp [isTupD, isPa]
end Sp

/-! SrC: rolls, in order. -/
namespace Sp
open PySem L2 Z
/-! ### papers by their look -/
theorem num_i {i lo hi : Int} : num (.int i) lo hi = decide (lo ≤ i ∧ i ≤ hi) := by simp [num]
theorem isPa_of {p : Pa} (h : okP p) : isPa p.D = true := by
  cases p <;> simp only [okP] at h <;> simp [Pa.D, Pa.row, rowD, keyD, isPa, forms, valG, ofString_inj, fits, num_i] <;> omega
theorem has_pa (p : Pa) : Has p.D := ⟨_, py_rowD p.row⟩
theorem fits_int {r : List Z.D} {ms : List Int} (h : fits r ms = true) (hl : r.length = ms.length) : ∃ is : List Int, r = is.map .int ∧ is.length = ms.length ∧ ∀ y ∈ is.zip ms, 0 ≤ y.1 ∧ y.1 ≤ y.2 - 1 := by
  induction r generalizing ms with
  | nil => exact ⟨[], rfl, hl, fun y hy => by simp at hy⟩
  | cons x r ih =>
    cases ms with
    | nil => simp at hl
    | cons m ms =>
      simp only [fits, List.zip_cons_cons, List.all_cons, Bool.and_eq_true] at h
      obtain ⟨i, rfl, h1, h2⟩ := num_int h.1
      obtain ⟨is, rfl, h3, h4⟩ := ih (ms := ms) h.2 (by simpa using hl)
      refine ⟨i :: is, rfl, by simp [h3], fun y hy => ?_⟩
      rw [List.zip_cons_cons, List.mem_cons] at hy
      rcases hy with rfl | hy
      · exact ⟨h1, h2⟩
      · exact h4 y hy
theorem pa_of {d : Z.D} (h : isPa d = true) : ∃ p, okP p ∧ d = p.D := by
  unfold isPa at h
  split at h
  · rename_i x w r
    split at h
    · rename_i ms e
      simp only [Bool.and_eq_true, decide_eq_true_eq] at h
      obtain ⟨⟨h1, h2⟩, h3⟩ := h
      obtain ⟨d, rfl, hd1, hd2⟩ := num_int h2
      obtain ⟨is, rfl, h5, h6⟩ := fits_int h3 h1
      have hm := valG_mem e
      simp only [forms, List.mem_cons, Prod.mk.injEq, List.not_mem_nil, or_false] at hm
      rcases hm with ⟨rfl, rfl⟩ | ⟨rfl, rfl⟩ | ⟨rfl, rfl⟩ | ⟨rfl, rfl⟩ | ⟨rfl, rfl⟩ | ⟨rfl, rfl⟩ | ⟨rfl, rfl⟩ | ⟨rfl, rfl⟩ | ⟨rfl, rfl⟩ | ⟨rfl, rfl⟩
      · match is, h5 with
        | [a, b, c, e], _ =>
          simp at h6
          exact ⟨.charge d a b c e, by simp only [okP]; omega, rfl⟩
      · match is, h5 with
        | [a, b], _ =>
          simp at h6
          exact ⟨.bill d a b, by simp only [okP]; omega, rfl⟩
      · match is, h5 with
        | [a], _ =>
          simp at h6
          exact ⟨.hold d a, by simp only [okP]; omega, rfl⟩
      · match is, h5 with
        | [a, b], _ =>
          simp at h6
          exact ⟨.pledge d a b, by simp only [okP]; omega, rfl⟩
      · match is, h5 with
        | [a], _ =>
          simp at h6
          exact ⟨.miss d a, by simp only [okP]; omega, rfl⟩
      · match is, h5 with
        | [a], _ =>
          simp at h6
          exact ⟨.over d a, by simp only [okP]; omega, rfl⟩
      · match is, h5 with
        | [a, b], _ =>
          simp at h6
          exact ⟨.move d a b, by simp only [okP]; omega, rfl⟩
      · match is, h5 with
        | [a, b], _ =>
          simp at h6
          exact ⟨.judge d a b, by simp only [okP]; omega, rfl⟩
      · match is, h5 with
        | [a, b], _ =>
          simp at h6
          exact ⟨.pardon d a b, by simp only [okP]; omega, rfl⟩
      · match is, h5 with
        | [a], _ =>
          simp at h6
          exact ⟨.aside d a, by simp only [okP]; omega, rfl⟩
    · cases h
  · cases h
theorem all_pa : ∀ {ds : List Z.D}, (∀ d ∈ ds, isPa d = true) → ∃ ps : List Pa, ds = ps.map Pa.D ∧ ∀ p ∈ ps, okP p
  | [], _ => ⟨[], rfl, fun p hp => by cases hp⟩
  | d :: ds, h => by
    obtain ⟨p, hp, rfl⟩ := pa_of (h d (by simp))
    obtain ⟨ps, rfl, hps⟩ := all_pa (ds := ds) fun e he => h e (by simp [he])
    exact ⟨p :: ps, rfl, fun q hq => (List.mem_cons.mp hq).elim (fun e => e ▸ hp) (hps q)⟩
/-! ### the order of papers -/
def ltP (p q : Pa) : Bool := ltR p.row q.row
theorem nk_data : ∀ ks : List Key, NestedKey.datas (ks.map nk) = ks.map keyPy
  | [] => rfl
  | k :: ks => by
    simp only [List.map_cons, NestedKey.datas, nk_data ks]
    cases k <;> rfl
theorem rowK_data (ks : List Key) : (rowK ks).data = .tuple (ks.map keyPy) := by
  simp only [rowK, NestedKey.data, nk_data]
theorem alike_ints : ∀ a b : List Int, PySem.W.alikeAll (a.map PyData.int) (b.map PyData.int) = true
  | [], b => by cases b <;> simp [PySem.W.alikeAll]
  | x :: a, [] => by simp [PySem.W.alikeAll]
  | x :: a, y :: b => by simp [PySem.W.alikeAll, PySem.W.alike, alike_ints a b]
theorem row_look (p : Pa) : ∃ (w : Str) (is : List Int), p.row = .inl p.day :: .inr w :: is.map .inl := by
  cases p
  · exact ⟨_, [_, _, _, _], rfl⟩
  · exact ⟨_, [_, _], rfl⟩
  · exact ⟨_, [_], rfl⟩
  · exact ⟨_, [_, _], rfl⟩
  · exact ⟨_, [_], rfl⟩
  · exact ⟨_, [_], rfl⟩
  · exact ⟨_, [_, _], rfl⟩
  · exact ⟨_, [_, _], rfl⟩
  · exact ⟨_, [_, _], rfl⟩
  · exact ⟨_, [_], rfl⟩
theorem keyPy_ints (is : List Int) : (is.map (Sum.inl : Int → Key)).map keyPy = is.map PyData.int := by rw [List.map_map]; rfl
theorem alikeP (p q : Pa) : alikeR p.row q.row = true := by
  obtain ⟨w, is, e⟩ := row_look p
  obtain ⟨w2, js, e2⟩ := row_look q
  unfold alikeR
  rw [rowK_data, rowK_data, e, e2]
  simp only [List.map_cons, keyPy_ints, PySem.W.alike, PySem.W.alikeAll, keyPy, alike_ints, Bool.and_self]
theorem notNone_row (p : Pa) : notNone (.tuple (p.row.map keyPy)) = true := by
  cases p <;> rfl
theorem dLt_pa (p q : Pa) (S : Sto) : dLt p.D q.D S = .ok (.bl (ltP p q)) S := by
  have e1 : toPy p.D S = some (.tuple (p.row.map keyPy)) := py_rowD p.row
  have e2 : toPy q.D S = some (.tuple (q.row.map keyPy)) := py_rowD q.row
  have e3 := alikeP p q
  unfold alikeR at e3
  rw [rowK_data, rowK_data] at e3
  have e4 : ltP p q = PySem.W.dataLt (.tuple (p.row.map keyPy)) (.tuple (q.row.map keyPy)) := by
    unfold ltP ltR ltK
    rw [rowK_data, rowK_data]
  unfold dLt dDat
  rw [e1, e2, e4]
  simp [alikeB, e3, notNone_row, PyData.depth, depth_keys]
theorem ltP_trans {p q r : Pa} (h1 : ltP p q = true) (h2 : ltP q r = true) : ltP p r = true := ltK_trans h1 h2
theorem ltP_irr (p : Pa) : ltP p p = false := ltK_irr _
theorem ltP_day {p q : Pa} (h : ltP p q = true) : p.day ≤ q.day := by
  obtain ⟨w, is, e⟩ := row_look p
  obtain ⟨w2, js, e2⟩ := row_look q
  rcases Int.lt_or_le q.day p.day with g | g
  · exfalso
    unfold ltP ltR ltK PySem.W.dataLt at h
    rw [rowK_data, rowK_data, e, e2] at h
    simp only [List.map_cons, keyPy, PySem.W.keyToks, PySem.W.keyToksAll, List.singleton_append] at h
    rw [show ∀ (a b : List (Int ⊕ List Nat)), PyProof.Rows.lexLt PyProof.Rows.itemOrd (Sum.inl 1 :: a) (Sum.inl 1 :: b) = PyProof.Rows.lexLt PyProof.Rows.itemOrd a b from fun a b => PySem.W.lex_pre [.inl 1] a b] at h
    have hne : (Sum.inl p.day : Int ⊕ List Nat) ≠ Sum.inl q.day := fun e => by
      injection e with e; omega
    rw [PySem.W.lex_atom hne] at h
    have hd := PySem.W.dataLt_int p.day q.day
    unfold PySem.W.dataLt at hd
    simp only [PySem.W.keyToks] at hd
    rw [hd] at h
    simp only [decide_eq_true_eq] at h
    omega
  · exact g
def adj : List Pa → Bool
  | [] => true
  | [_] => true
  | p :: q :: r => ltP p q && adj (q :: r)
theorem adj_pair : ∀ {ps : List Pa}, adj ps = true ↔ ps.Pairwise fun a b => ltP a b = true
  | [] => by simp [adj]
  | [p] => by simp [adj]
  | p :: q :: r => by
    simp only [adj, Bool.and_eq_true]
    rw [adj_pair (ps := q :: r)]
    constructor
    · rintro ⟨h1, h2⟩
      refine List.pairwise_cons.mpr ⟨fun x hx => ?_, h2⟩
      rcases List.mem_cons.mp hx with rfl | hx
      · exact h1
      · exact ltP_trans h1 ((List.pairwise_cons.mp h2).1 x hx)
    · intro h
      have h := List.pairwise_cons.mp h
      exact ⟨h.1 q (by simp), h.2⟩
theorem adj_zip : ∀ ps : List Pa, ((ps.zip ps.tail).all fun x => ltP x.1 x.2) = adj ps
  | [] => rfl
  | [p] => rfl
  | p :: q :: r => by
    have := adj_zip (q :: r)
    simp only [List.tail_cons] at this
    simp [adj, this]
/-- a roll as need_roll wants it -/
structure Ro (ps : List Pa) : Prop where
  ok : ∀ p ∈ ps, okP p
  up : ps.Pairwise fun a b => ltP a b = true
  ln : ps.length ≤ 24
theorem Ro.rl {ps : List Pa} (h : Ro ps) : Rl ps := ⟨h.ok, h.up.imp fun h => ltP_day h, h.ln⟩
theorem Ro.sub {ps qs : List Pa} (h : Ro ps) (s : qs.Sublist ps) : Ro qs := ⟨fun p hp => h.ok p (s.subset hp), h.up.sublist s, Nat.le_trans s.length_le h.ln⟩
theorem Ro.nd {ps : List Pa} (h : Ro ps) : ps.Nodup := h.up.imp fun {a b} h e => by subst e; rw [ltP_irr] at h; cases h
/-- what is_roll says -/
def isRo (d : Z.D) : Bool := match d with
  | .tup ds => decide (ds.length ≤ 24) && ds.all isPa && (List.zipWith (fun a b => Z.D.tup [a, b]) ds (cutD ds (some 1) none)).all fun x => match x with
    | .tup [a, b] => (match toPyD a, toPyD b with
      | some p, some q => PySem.W.dataLt p q
      | _, _ => false)
    | _ => false
  | _ => false
theorem zip_pa : ∀ ps qs : List Pa, List.zipWith (fun a b => Z.D.tup [a, b]) (ps.map Pa.D) (qs.map Pa.D) = (ps.zip qs).map fun x => .tup [x.1.D, x.2.D]
  | [], qs => by simp
  | p :: ps, [] => by simp
  | p :: ps, q :: qs => by simp [zip_pa ps qs]
theorem cut_tail (ds : List Z.D) : cutD ds (some 1) none = ds.tail := by
  cases ds with
  | nil => rfl
  | cons d ds => exact cut_fr1
theorem isRo_ps (ps : List Pa) : isRo (.tup (ps.map Pa.D)) = (decide (ps.length ≤ 24) && (ps.all fun p => isPa p.D) && adj ps) := by
  unfold isRo
  simp only
  rw [List.length_map, List.all_map, cut_tail, ← List.map_tail, zip_pa, List.all_map, ← adj_zip]
  congr 2
  funext x
  simp only [Function.comp]
  show (match toPyD x.1.D, toPyD x.2.D with | some p, some q => PySem.W.dataLt p q | _, _ => false) = _
  rw [show toPyD x.1.D = _ from py_rowD x.1.row, show toPyD x.2.D = _ from py_rowD x.2.row]
  unfold ltP ltR ltK
  rw [rowK_data, rowK_data]
theorem isRo_of {ps : List Pa} (h : Ro ps) : isRo (.tup (ps.map Pa.D)) = true := by
  rw [isRo_ps]
  simp only [Bool.and_eq_true, decide_eq_true_eq, List.all_eq_true]
  exact ⟨⟨h.ln, fun p hp => isPa_of (h.ok p hp)⟩, adj_pair.mpr h.up⟩
variable [Rz]
theorem roll_ok {d : Z.D} (h : Has d) (S : Sto) : Pg.m_is_roll [d] S = .ok (.bl (isRo d)) S := by
  obtain ⟨p, hp⟩ := h
  refine wp_eq ?_
  unfold Pg.m_is_roll
  simp [isa_tup hp]
  cases d
  case tup ds =>
    simp only [isTupD]
    have hh := has_tup ⟨p, hp⟩
    have e1 : lcL [] (Tgt.nm 1) [1] tYesM (mCall Pg.m_is_paper (aCons (mVar 1) aNil)) ds [some (Z.D.tup ds), none, none] S = .ok (ds.map fun d => Z.D.bl (isPa d)) S := lc_map (fun d => .bl (isPa d)) ds fun d hd => ⟨_, rfl, by simp [wipeT, paper_ok (hh d hd)]⟩
    by_cases q1 : ds.length ≤ 24
    · have z1 : ¬ (24 : Int) < ds.length := by omega
      have z3 : ds.length ≤ 16777216 := by omega
      cases q2 : ds.all isPa with
      | false =>
        have e2 : isRo (.tup ds) = false := by simp only [isRo, q2, Bool.and_false, Bool.false_and]
        simp [z1, hz, z3, e1, all_map, q2, e2]
      | true =>
        obtain ⟨ps, rfl, hps⟩ := all_pa (ds := ds) (List.all_eq_true.mp q2)
        have e2 : isRo (.tup (ps.map Pa.D)) = adj ps := by
          rw [isRo_ps]
          rw [List.length_map] at q1
          have : (ps.all fun p => isPa p.D) = true := List.all_eq_true.mpr fun p hp => isPa_of (hps p hp)
          simp [q1, this]
        have ez : ∀ S, zipA [.tup (ps.map Pa.D), .tup (cutD (ps.map Pa.D) (some 1) none)] S = some ⟨(ps.zip ps.tail).map fun x => .tup [x.1.D, x.2.D], []⟩ := fun S => by
          rw [cut_tail, ← List.map_tail, ← zip_pa]; rfl
        have el : lcL [] (.tp [1, 2]) [1, 2] tYesM (mBin dLt (mVar 1) (mVar 2)) ((ps.zip ps.tail).map fun x => .tup [x.1.D, x.2.D]) [some (.tup (ps.map Pa.D)), none, none] S = .ok (((ps.zip ps.tail).filter fun _ => true).map fun x => .bl (ltP x.1 x.2)) S :=
          lc_src (keep_nil S) (fun _ => true) (fun x : Pa × Pa => .bl (ltP x.1 x.2)) _ fun x hx => ⟨_, rfl, rfl, fun _ => by simp [wipeT, -List.map_cons]; exact dLt_pa _ _ _⟩
        have hf : ((ps.zip ps.tail).filter fun _ => true) = ps.zip ps.tail := by simp
        rw [hf] at el
        have ea := all_src (fun x : Pa × Pa => ltP x.1 x.2) (ps.zip ps.tail) S
        rw [adj_zip] at ea
        have hl : ((ps.zip ps.tail).map fun x : Pa × Pa => Z.D.tup [x.1.D, x.2.D]).length ≤ 16777216 := by
          rw [List.length_map] at q1
          simp; omega
        generalize ((ps.zip ps.tail).map fun x : Pa × Pa => Z.D.tup [x.1.D, x.2.D]) = zs at *
        have q3 := all_map isPa (ps.map Pa.D) S
        rw [q2] at q3
        generalize ps.map Pa.D = ds at *
        simp [z1, hz, z3, e1, q3, ez, el, hl, ea, e2]
    · have z1 : (24 : Int) < ds.length := by omega
      have e2 : isRo (.tup ds) = false := by simp [isRo, q1]
      simp [z1, e2]
  all_goals simp [isTupD, isRo]
end Sp

/-! SrD: benches by their look; the doors, where all is right. -/
namespace Sp
open PySem L2 Z
variable [Rz]
def adjT : List (Int × Int × Int) → Bool
  | [] => true
  | [_] => true
  | p :: q :: r => decide (p.2.1 < q.1) && adjT (q :: r)
structure OkBB (b : Be) : Prop extends OkB b where
  l1 : 1 ≤ b.ts.length
  l8 : b.ts.length ≤ 8
  ch : adjT b.ts = true
theorem toPy_tsD (t : Int × Int × Int) : toPyD (tsD t) = some (.tuple [.int t.1, .int t.2.1, .int t.2.2]) := rfl
theorem toPy_ts : ∀ ts : List (Int × Int × Int), toPyDs (ts.map tsD) = some (ts.map fun t => .tuple [.int t.1, .int t.2.1, .int t.2.2])
  | [] => rfl
  | t :: ts => by simp only [List.map_cons, toPyDs, toPy_tsD, toPy_ts ts]
theorem has_b (b : Be) : Has b.D := ⟨.tuple [.tuple (b.ts.map fun t => .tuple [.int t.1, .int t.2.1, .int t.2.2]), .int b.hold, .int b.puts, .int b.pledges], by simp [Be.D, toPyD, toPyDs, toPy_ts]⟩
theorem has_ps (ps : List Pa) : Has (.tup (ps.map Pa.D)) := ⟨.tuple ((ps.map Pa.row).map fun k => .tuple (k.map keyPy)), by rw [map_D]; simp only [toPyD, py_rows, Option.map_some]⟩
theorem sit_ts (t : Int × Int × Int) : sit (tsD t) = decide ((0 ≤ t.1 ∧ t.1 ≤ 60) ∧ (0 ≤ t.2.1 ∧ t.2.1 ≤ 60) ∧ t.1 ≤ t.2.1 ∧ 0 ≤ t.2.2 ∧ t.2.2 ≤ 3) := by
  have e1 : iv (.int t.1) = t.1 := rfl
  have e2 : iv (.int t.2.1) = t.2.1 := rfl
  simp only [tsD, sit, num_i, e1, e2]
  rw [Bool.eq_iff_iff]
  simp only [Bool.and_eq_true, decide_eq_true_eq]
  omega
theorem zip_ts : ∀ ps qs : List (Int × Int × Int), List.zipWith (fun a b => Z.D.tup [a, b]) (ps.map tsD) (qs.map tsD) = (ps.zip qs).map fun x => .tup [tsD x.1, tsD x.2]
  | [], qs => by simp
  | p :: ps, [] => by simp
  | p :: ps, q :: qs => by simp [zip_ts ps qs]
theorem adjT_zip : ∀ ps : List (Int × Int × Int), ((ps.zip ps.tail).all fun x => decide (x.1.2.1 < x.2.1)) = adjT ps
  | [] => rfl
  | [p] => rfl
  | p :: q :: r => by
    have := adjT_zip (q :: r)
    simp only [List.tail_cons] at this
    simp [adjT, this]
theorem chn_ts (ts : List (Int × Int × Int)) : chn (ts.map tsD) = adjT ts := by
  rw [chn_eq, cut_tail, ← List.map_tail, zip_ts, List.all_map, ← adjT_zip]
  congr 1
theorem bch_of {b : Be} (h : OkBB b) : bch b.D = true := by
  have h1 := h.hold
  have h2 := h.puts
  have h3 := h.pled
  have hs : (b.ts.map tsD).all sit = true := by
    rw [List.all_map, List.all_eq_true]
    intro t ht
    have := h.ts t ht
    simp only [Function.comp, sit_ts, decide_eq_true_eq]
    omega
  show (rnd (.tup (b.ts.map tsD)) && num (.int b.hold) 1 20 && num (.int b.puts) 0 3 && num (.int b.pledges) 1 3) = true
  have hr : rnd (.tup (b.ts.map tsD)) = true := by
    simp only [rnd, hs, chn_ts, h.ch, List.length_map, Bool.and_true, Bool.and_eq_true, decide_eq_true_eq]
    exact ⟨h.l1, h.l8⟩
  rw [hr]
  simp only [num_i, Bool.true_and, Bool.and_eq_true, decide_eq_true_eq]
  exact ⟨⟨h1, h2⟩, h3⟩
variable {b : Be} {ps : List Pa}
theorem nbench (h : OkBB b) (S : Sto) : Pg.m_need_bench [b.D] S = .ok .non S := by
  refine wp_eq ?_
  unfold Pg.m_need_bench
  simp [bench_ok (has_b b), bch_of h]
theorem nroll (h : Ro ps) (S : Sto) : Pg.m_need_roll [.tup (ps.map Pa.D)] S = .ok .non S := by
  refine wp_eq ?_
  unfold Pg.m_need_roll
  simp [roll_ok (has_ps ps), isRo_of h]
theorem nboth (hb : OkBB b) (h : Ro ps) (S : Sto) : Pg.m_need_both [b.D, .tup (ps.map Pa.D)] S = .ok .non S := by
  refine wp_eq ?_
  unfold Pg.m_need_both
  simp [nbench hb, nroll h]
theorem npaper {p : Pa} (h : okP p) (S : Sto) : Pg.m_need_paper [p.D] S = .ok .non S := by
  refine wp_eq ?_
  unfold Pg.m_need_paper
  simp [paper_ok (has_pa p), isPa_of h]
end Sp

/-! SrE: papers up to a day, standings, tables. -/
namespace Sp
open PySem L2 Z
variable [Rz]
variable {S S' : Sto} {b : Be} {ps : List Pa} {st : St} {r m : Nat}
/-- a reading lies at r, all of its cells from m on -/
def Rd (S : Sto) (m r : Nat) (b : Be) (st : St) : Prop := ∃ n0 ℓ sk dn, m ≤ n0 ∧ Rep S r n0 ℓ b sk dn st
theorem Rep.keep {n0 : Nat} {ℓ : Int → Nat} {sk : List (Pa × Pa)} {dn : List Pa} (R : Rep S r n0 ℓ b sk dn st) (h : ∀ i, n0 ≤ i → i < S.length → S'[i]? = S[i]?) : Rep S' r n0 ℓ b sk dn st := by
  have hl := R.lt
  have g : ∀ {i : Nat} {c : C}, n0 ≤ i → S[i]? = some c → S'[i]? = some c := fun hi e => (h _ hi (lt_of_at e)).trans e
  exact ⟨g (by omega) R.me, R.lt, g (by omega) R.sk, g (by omega) R.dn, g (by omega) R.ca, g (by omega) R.pa, g (by omega) R.wo, g (by omega) R.lo, fun x hx => ⟨g (by have := (R.ce x hx).2; omega) (R.ce x hx).1, (R.ce x hx).2⟩, R.inj, R.nd⟩
theorem Rd.keep (R : Rd S m r b st) (h : ∀ i, m ≤ i → i < S.length → S'[i]? = S[i]?) : Rd S' m r b st := by
  obtain ⟨n0, ℓ, sk, dn, h1, h2⟩ := R
  exact ⟨n0, ℓ, sk, dn, h1, h2.keep fun i hi hl => h i (by omega) hl⟩
theorem Rd.fr (R : Rd S m r b st) (h : Fr S.length S S') : Rd S' m r b st := R.keep fun i _ hl => h.2 i hl
/-- how a cause stands -/
def stand (b : Be) (st : St) (n d : Int) : Option (Wd × Int × Int × Int × Int × Option Int) := (valG st.causes n).map fun c => (c.word, c.person, c.deed, c.town, (if c.isHeld b.hold d then 1 else 0), c.pledger)
end Sp

/-! SrF: the readings of all days; the whole table. -/
namespace Sp
open PySem L2 Z
/-! ### loops over a range -/
section
variable {g : Tgt} {body : MS} {N : Tau → Sto → Prop} {T : Z.D → Sto → Prop}
theorem for_rng (n : Nat) (Inv : Nat → Tau → Sto → Prop) (step : ∀ k τ S, k < n → Inv k τ S → ∃ τ1, bindT g (.int k) τ = some τ1 ∧ wpS (body τ1 S) (fun τ2 S2 => Inv (k + 1) τ2 S2) T) (fin : ∀ τ S, Inv n τ S → N τ S) (τ : Tau) (S : Sto) (h : Inv 0 τ S) :
    wpS (forL [] g body ((List.range n).map fun i : Nat => .int (i : Int)) τ S) N T := by
  refine for_src (fun qs τ S => ∃ k, qs = List.range' k (n - k) ∧ k ≤ n ∧ Inv k τ S) (fun _ _ S _ => keep_nil S) ?_ ?_ (List.range n) τ S ⟨0, by rw [List.range_eq_range', Nat.sub_zero], Nat.zero_le _, h⟩
  · rintro a as τ S ⟨k, e, hk, hi⟩
    have hk2 : k < n := by
      rcases Nat.lt_or_ge k n with h | h
      · exact h
      · rw [show n - k = 0 by omega] at e; cases e
    rw [show n - k = (n - (k + 1)) + 1 by omega, List.range'_succ] at e
    simp only [List.cons.injEq] at e
    obtain ⟨ea, eas⟩ := e
    obtain ⟨τ1, e1, w⟩ := step k τ S hk2 hi
    rw [ea, eas]
    exact ⟨τ1, e1, wpS_imp w (fun τ2 S2 h2 => ⟨k + 1, rfl, by omega, h2⟩) fun _ _ h => h⟩
  · rintro τ S ⟨k, e, hk, hi⟩
    have : k = n := by
      rcases Nat.lt_or_ge k n with h | h
      · rw [show n - k = (n - (k + 1)) + 1 by omega, List.range'_succ] at e; cases e
      · omega
    subst this
    exact fin τ S hi
end
theorem rng1 (n : Int) (h : 0 ≤ n ∧ n ≤ 1000) (S : Sto) : range1 [.int n] S = some ⟨(List.range n.toNat).map fun i : Nat => .int (i : Int), []⟩ := by
  unfold range1
  simp only
  rw [if_pos (by omega)]
  simp
/-! ### rolls compared -/
variable [Rz]
variable {S S' : Sto} {b : Be} {ps : List Pa} {st : St} {r m : Nat}
end Sp

/-! SrG: the whole table; the days that somebody is held. -/
namespace Sp
open PySem L2 Z
section
variable {g : Tgt} {body : MS} {N : Tau → Sto → Prop} {T : Z.D → Sto → Prop} {ks : List (Nat × C)}
end
variable [Rz]
variable {S S' : Sto} {b : Be} {ps : List Pa} {st : St} {r m : Nat}
def cell1 (b : Be) (ps : List Pa) (d c : Nat) : Option (Wd × Int × Int × Int × Int × Option Int) := stand b (reading b (upto ps (d : Int))) (c : Int) (d : Int)
end Sp

/-! SqK: the law's own table. -/
namespace Sp
open PySem L2 Z
/-! ### what stays true up to a day -/
theorem fold_okD {b : Be} {sk : List (Pa × Pa)} {dn : List Pa} (hB : OkB b) (E : Int) : ∀ (qs : List Pa) (D : Int) (k : Nat) (st : St), (∀ p ∈ qs, okP p ∧ D ≤ p.day ∧ p.day ≤ E) → qs.Pairwise (fun a b => a.day ≤ b.day) → 0 ≤ D → D ≤ E → OkS b D k st → OkS b E (k + qs.length) (qs.foldl (step b sk dn) st)
  | [], D, k, st, _, _, _, h6, h => h.mono h6 (Nat.le_refl _)
  | p :: qs, D, k, st, hq, hs, h0, h6, h => by
    obtain ⟨h1, h2, h3⟩ := hq p (by simp)
    have hd := okP_day h1
    have hs' := List.pairwise_cons.mp hs
    have r := fold_okD (sk := sk) (dn := dn) hB E qs p.day (k + 1) (step b sk dn st p) (fun q hq' => ⟨(hq q (by simp [hq'])).1, hs'.1 q hq', (hq q (by simp [hq'])).2.2⟩) hs'.2 hd.1 h3 (step_okS h hB h1 h2 h0)
    rw [List.foldl_cons, List.length_cons]
    rw [show k + (qs.length + 1) = k + 1 + qs.length by omega]
    exact r
theorem loop_pass (b : Be) (ps : List Pa) : ∀ n sk dn, ∃ sk' dn', (loop b ps n sk dn).1 = pass b sk' dn' ps
  | 0, sk, dn => ⟨sk, dn, rfl⟩
  | n + 1, sk, dn => by
    unfold loop
    split
    · exact ⟨sk, dn, rfl⟩
    · exact loop_pass b ps n _ _
theorem reading_okS {b : Be} {ps : List Pa} (hB : OkB b) (hR : Rl ps) {E : Int} (h0 : 0 ≤ E) (hE : ∀ p ∈ ps, p.day ≤ E) : OkS b E ps.length (reading b ps) := by
  obtain ⟨sk, dn, e⟩ := loop_pass b ps ps.length [] []
  unfold reading readAll
  rw [e]
  have := fold_okD (sk := sk) (dn := dn) hB E ps 0 0 St.nil (fun p hp => ⟨hR.ok p hp, (okP_day (hR.ok p hp)).1, hE p hp⟩) hR.so (Int.le_refl _) h0 (okS_nil b 0)
  rw [Nat.zero_add] at this
  exact this
variable [Rz]
variable {S S' : Sto} {b : Be} {ps : List Pa} {st : St} {m k : Nat} {sd : Z.D}
/-- a law's own reading, all of its cells from m on -/
def RdL (S : Sto) (m : Nat) (sd : Z.D) (st : St) : Prop := ∃ c0 ℓ dv, sd = stD c0 dv ∧ m ≤ c0 ∧ RepL S c0 ℓ st
theorem RepL.keep {c0 : Nat} {ℓ : Int → Nat} (R : RepL S c0 ℓ st) (h : ∀ i, c0 ≤ i → i < S.length → S'[i]? = S[i]?) : RepL S' c0 ℓ st := by
  have g : ∀ {i : Nat} {c : C}, c0 ≤ i → S[i]? = some c → S'[i]? = some c := fun hi e => (h _ hi (lt_of_at e)).trans e
  exact ⟨g (by omega) R.ca, g (by omega) R.pa, g (by omega) R.wo, fun x hx => ⟨g (by have := (R.ce x hx).2; omega) (R.ce x hx).1, (R.ce x hx).2⟩, R.inj, R.nd⟩
theorem RdL.keep (R : RdL S m sd st) (h : ∀ i, m ≤ i → i < S.length → S'[i]? = S[i]?) : RdL S' m sd st := by
  obtain ⟨c0, ℓ, dv, h0, h1, h2⟩ := R
  exact ⟨c0, ℓ, dv, h0, h1, h2.keep fun i hi hl => h i (by omega) hl⟩
theorem RdL.fr (R : RdL S m sd st) (h : Fr S.length S S') : RdL S' m sd st := R.keep fun i _ hl => h.2 i hl
/-- the law's readings of the days ahead of k -/
def RdsL (S : Sto) (m : Nat) (b : Be) (ps : List Pa) (rs : List Z.D) : Prop := ∀ (i : Nat) (r : Z.D), rs[i]? = some r → RdL S m r (reading b (upto ps (i : Int)))
end Sp

/-! SqL: the law's own table, whole. -/
namespace Sp
open PySem L2 Z
variable [Rz]
variable {S S' : Sto} {b : Be} {ps : List Pa} {st : St} {m k : Nat} {sd : Z.D}
end Sp

/-! SqM: the pen; benches drawn. -/
namespace Sp
open PySem L2 Z
/-- the pen's cell changes, new cells come: all else stays -/
structure PF (l : Nat) (S S' : Sto) : Prop where
  pen : Pen l S'
  len : S.length ≤ S'.length
  eq : ∀ i, i < S.length → i ≠ l → S'[i]? = S[i]?
theorem PF.refl {l : Nat} {S : Sto} (h : Pen l S) : PF l S S := ⟨h, Nat.le_refl _, fun _ _ _ => rfl⟩
theorem PF.trans {l : Nat} {S S1 S2 : Sto} (h : PF l S S1) (h2 : PF l S1 S2) : PF l S S2 := ⟨h2.pen, Nat.le_trans h.len h2.len, fun i hi hn => (h2.eq i (Nat.lt_of_lt_of_le hi h.len) hn).trans (h.eq i hi hn)⟩
theorem PF.at {l k : Nat} {S S' : Sto} {c : C} (h : PF l S S') (e : S[k]? = some c) (hn : k ≠ l) : S'[k]? = some c := (h.eq k (lt_of_at e) hn).trans e
theorem PF.app {l : Nat} {S T : Sto} (h : Pen l S) : PF l S (S ++ T) := by
  obtain ⟨a, b, e⟩ := h
  exact ⟨⟨a, b, app_at e⟩, by simp, fun i hi _ => List.getElem?_append_left hi⟩
theorem PF.set {l k : Nat} {S S1 : Sto} {c : C} (h : PF l S S1) (hk : S.length ≤ k) (hl : k ≠ l) : PF l S (S1.set k c) := by
  obtain ⟨a, b, e⟩ := h.pen
  exact ⟨⟨a, b, set_ne e hl⟩, by simpa using h.len, fun i hi hn => by rw [List.getElem?_set_ne (by omega)]; exact h.eq i hi hn⟩
theorem PF.fr {l : Nat} {S S' : Sto} (h : Pen l S) (f : Fr S.length S S') : PF l S S' := by
  obtain ⟨a, b, e⟩ := h
  exact ⟨⟨a, b, f.at (lt_of_at e) e⟩, f.1, fun i hi _ => f.2 i hi⟩
variable [Rz]
variable {l : Nat} {S S' : Sto} {Q : Z.D → Sto → Prop}
theorem draw2 {n : Int} (hp : Pen l S) (h0 : 0 < n) (h1 : n < 1073741824) (k : ∀ r S', 0 ≤ r → r < n → PF l S S' → Q (.int r) S') : wpR (V2.m_law_draw [.loc l, .int n] S) Q := by
  obtain ⟨a, b, h⟩ := hp
  have hl := (List.getElem?_eq_some_iff.mp h).1
  have i0 : ∀ x y : Int, atI [Z.D.int x, Z.D.int y] 0 = some (.int x) := fun _ _ => rfl
  have i1 : ∀ x y : Int, atI [Z.D.int x, Z.D.int y] 1 = some (.int y) := fun _ _ => rfl
  have gs : ∀ c, (S.set l c)[l]? = some c := fun c => List.getElem?_set_self hl
  have p0 : ∀ x : Int, dPut (.loc l) (.int 0) (.int x) S = some (S.set l (.lst [.int x, .int b])) := fun x => put_L (j := 0) h rfl
  have hf : ∀ x : Int, PF l S (S.set l (.lst [.int x, .int b])) := fun x => ⟨⟨_, _, gs _⟩, by simp, fun i hi hn => by rw [List.getElem?_set_ne (Ne.symm hn)]⟩
  unfold V2.m_law_draw
  simp [x_ixLl h, i0, i1, h0, h1, h, setAll, bindT, p0, x_ixLl (gs _)]
  refine ⟨fun _ => ?_, fun _ => ?_⟩
  · exact k _ _ (Int.emod_nonneg _ (by omega)) (Int.emod_lt_of_pos _ h0) (hf _)
  · refine ⟨?_, ?_⟩
    · have := Int.emod_nonneg ((a % 2147483647 + 40503) * 69621) (b := 2147483629) (by omega)
      have := Int.emod_lt_of_pos ((a % 2147483647 + 40503) * 69621) (b := 2147483629) (by omega)
      omega
    · exact k _ _ (Int.emod_nonneg _ (by omega)) (Int.emod_lt_of_pos _ h0) (hf _)
theorem pen2 {c : Int} (k : ∀ S', PF S.length (S ++ [.lst []]) S' → S'.length = S.length + 1 → Q (.loc S.length) S') : wpR (V2.m_law_pen [.int c] S) Q := by
  unfold V2.m_law_pen
  simp
  refine ⟨by decide, k _ ⟨⟨_, _, by simp; exact ⟨rfl, rfl⟩⟩, by simp, fun i hi hn => ?_⟩ (by simp)⟩
  simp at hi
  rw [List.getElem?_append_left (by omega), List.getElem?_append_left (by omega)]
theorem cell2 {cs : List Int} {n : Int} (h0 : 0 ≤ n) (k : ∀ c : Int, Q (.int c) S) : wpR (V2.m_law_cell [.scr (cs.map Z.D.int), .int n] S) Q := by
  unfold V2.m_law_cell
  simp
  refine ⟨fun h => ?_, fun _ => k 0⟩
  obtain ⟨d, h1, h2, _⟩ := atI_mem (ds := cs.map Z.D.int) h0 (by simpa using h)
  obtain ⟨c, _, rfl⟩ := List.mem_map.mp h2
  exact ⟨_, h1, k c⟩
/-- a draw from a row of numbers -/
theorem pick {is : List Int} {r : Int} (h0 : 0 ≤ r) (h1 : r < is.length) : ∃ i ∈ is, atI (is.map Z.D.int) r = some (.int i) := by
  obtain ⟨d, h3, h4, _⟩ := atI_mem (ds := is.map Z.D.int) h0 (by simpa using h1)
  obtain ⟨c, hc, rfl⟩ := List.mem_map.mp h4
  exact ⟨c, hc, h3⟩
end Sp

/-! SqN: a bench drawn. -/
namespace Sp
open PySem L2 Z
variable [Rz]
variable {l : Nat} {S S' : Sto} {Q : Z.D → Sto → Prop}
end Sp

/-! SqO: papers drawn. -/
namespace Sp
open PySem L2 Z
variable [Rz]
variable {l : Nat} {S S' : Sto} {Q : Z.D → Sto → Prop} {b : Be}
theorem pickS {ws : List Str} {r : Int} (h0 : 0 ≤ r) (h1 : r < ws.length) : ∃ w ∈ ws, atI (ws.map Z.D.str) r = some (.str w) := by
  obtain ⟨d, h3, h4, _⟩ := atI_mem (ds := ws.map Z.D.str) h0 (by simpa using h1)
  obtain ⟨c, hc, rfl⟩ := List.mem_map.mp h4
  exact ⟨c, hc, h3⟩
end Sp

/-! SqP: a roll drawn. -/
namespace Sp
open PySem L2 Z
theorem rowsOf_ps : ∀ ps : List Pa, rowsOfD (ps.map Pa.D) = some (ps.map Pa.row)
  | [] => rfl
  | p :: ps => by
    simp only [List.map_cons, rowsOfD, rowsOf_ps ps]
    rw [show rowOfD p.D = some p.row from rowOf_row p.row]
theorem rowsOk_ps {ps : List Pa} (h : ps.length < 64) : rowsOk (ps.map Pa.row) = true := by
  simp only [rowsOk, Bool.and_eq_true, decide_eq_true_eq, List.all_eq_true, List.length_map]
  refine ⟨h, fun x hx => ?_⟩
  obtain ⟨p, _, rfl⟩ := List.mem_map.mp hx
  refine ⟨by cases p <;> rfl, fun y hy => ?_⟩
  obtain ⟨q, _, rfl⟩ := List.mem_map.mp hy
  exact alikeP p q
theorem of_rows : ∀ {L : List (List Key)}, (∀ x ∈ L, ∃ p, okP p ∧ x = p.row) → ∃ qs : List Pa, L = qs.map Pa.row ∧ ∀ q ∈ qs, okP q
  | [], _ => ⟨[], rfl, fun q hq => by cases hq⟩
  | x :: L, h => by
    obtain ⟨p, hp, rfl⟩ := h x (by simp)
    obtain ⟨qs, rfl, hqs⟩ := of_rows (L := L) fun y hy => h y (by simp [hy])
    exact ⟨p :: qs, rfl, fun q hq => (List.mem_cons.mp hq).elim (fun e => e ▸ hp) (hqs q)⟩
theorem rows_D (qs : List Pa) : (qs.map Pa.row).map rowD = qs.map Pa.D := by rw [List.map_map]; rfl
variable [Rz]
variable {l : Nat} {S S' : Sto} {Q : Z.D → Sto → Prop} {b : Be}
end Sp

/-! SrH: held_days. -/
namespace Sp
open PySem L2 Z
variable [Rz]
variable {S S' : Sto} {b : Be} {ps : List Pa} {st : St} {r m : Nat}
end Sp

/-! SrI: free_from. -/
namespace Sp
open PySem L2 Z
variable [Rz]
variable {S S' : Sto} {b : Be} {ps : List Pa} {st : St} {r m : Nat}
end Sp

/-! what each def does -/
namespace V3
open PySem L2 Z V2
variable [Rz]
end V3

/-! SqQ: functions that more laws share. -/
namespace Sp
open PySem L2 Z
/-! ### days of one that is held, as the law counts them -/
variable [Rz]
variable {l : Nat} {S S' : Sto} {Q : Z.D → Sto → Prop} {b : Be} {ps : List Pa}
end Sp

/-! SrK: what the ends of laws share: repr, cells, comparisons. -/
namespace Sp
open PySem L2 Z
variable {l : Nat} {S S' : Sto} {b : Be} {ps : List Pa}
/-! ### what repr says -/
theorem repr_list {ks : List Nat} {ds : List Z.D} (h : Gq ks (.lst ds) = true) (hk : ks.length ≤ 64) (hw : Wq ks ≤ 16777216) : ∃ x, ∀ S l, S[l]? = some (.lst ds) → dRepr [.loc l] S = .ok (.str x) S := by
  obtain ⟨p, h1, h2⟩ := repr_ql (S := [.lst ds]) (l := 0) h hk hw rfl
  refine ⟨p.shown, fun S l hl => ?_⟩
  obtain ⟨p2, h3, h4⟩ := repr_ql (S := S) h hk hw hl
  rw [h1] at h3
  cases h3
  exact h4
theorem Gq_s {ks : List Nat} {x : Str} (h : (decide (x.length ≤ 8) && x.cps.toList.all fun c => decide (c < 16 ^ 8)) = true) : Gq ks (.str x) = true := by
  cases ks <;> exact h
theorem Pen.fr {l : Nat} {S S' : Sto} (h : Pen l S) (f : Fr S.length S S') : Pen l S' := (PF.fr h f).pen
theorem cut_len (ds : List Z.D) (a b : Option Int) : (cutD ds a b).length ≤ ds.length := by
  unfold cutD
  rw [List.length_take, List.length_drop]
  omega
theorem cells_int {ns : List Int} {c : Int} {x y : Option Int} : ∀ d ∈ Z.D.int c :: cutD (ns.map Z.D.int) x y, ∃ c : Int, d = .int c := fun d hd => by
  rcases List.mem_cons.mp hd with rfl | hd
  · exact ⟨_, rfl⟩
  · obtain ⟨x, _, rfl⟩ := List.mem_map.mp (cutD_mem hd)
    exact ⟨_, rfl⟩
end Sp

/-! SrL: causes of a kind, sorted; pledged_for, open_causes; what a judge paper would become. -/
namespace Sp
open PySem L2 Z
variable [Rz]
variable {S S' : Sto} {b : Be} {ps : List Pa} {st : St} {r m n0 : Nat} {ℓ : Int → Nat} {sk : List (Pa × Pa)} {dn : List Pa}
end Sp

/-! SrM: papers sorted; lists of numbers compared, shown. -/
namespace Sp
open PySem L2 Z
/-! ### sorted -/
theorem sortP_ex (ps : List Pa) : ∃ qs : List Pa, sortR (ps.map Pa.row) = qs.map Pa.row ∧ (∀ q, q ∈ qs ↔ q ∈ ps) ∧ qs.Pairwise fun a b => ltP a b = true := by
  have hal : ∀ x ∈ ps.map Pa.row, ∀ y ∈ ps.map Pa.row, alikeR x y = true := fun x hx y hy => by
    obtain ⟨p, _, rfl⟩ := List.mem_map.mp hx
    obtain ⟨q, _, rfl⟩ := List.mem_map.mp hy
    exact alikeP p q
  have of_rows : ∀ {L : List (List Key)}, (∀ x ∈ L, ∃ p : Pa, x = p.row) → ∃ qs : List Pa, L = qs.map Pa.row := fun {L} => by
    induction L with
    | nil => exact fun _ => ⟨[], rfl⟩
    | cons x L ih =>
      intro h
      obtain ⟨p, rfl⟩ := h x (by simp)
      obtain ⟨qs, rfl⟩ := ih fun y hy => h y (by simp [hy])
      exact ⟨p :: qs, rfl⟩
  obtain ⟨qs, e⟩ := of_rows (L := sortR (ps.map Pa.row)) fun x hx => by
    obtain ⟨p, hp, rfl⟩ := List.mem_map.mp ((sortR_mem hal).mp hx)
    exact ⟨p, rfl⟩
  refine ⟨qs, e, fun q => ?_, ?_⟩
  · have h1 : q.row ∈ sortR (ps.map Pa.row) ↔ q.row ∈ ps.map Pa.row := sortR_mem hal
    rw [e] at h1
    simp only [List.mem_map, row_inj, exists_eq_right] at h1
    exact h1
  · have up := sortR_up hal
    rw [e, List.pairwise_map] at up
    exact up
noncomputable def sortP (ps : List Pa) : List Pa := Classical.choose (sortP_ex ps)
theorem sortP_row (ps : List Pa) : sortR (ps.map Pa.row) = (sortP ps).map Pa.row := (Classical.choose_spec (sortP_ex ps)).1
theorem mem_sortP {ps : List Pa} {q : Pa} : q ∈ sortP ps ↔ q ∈ ps := (Classical.choose_spec (sortP_ex ps)).2.1 q
theorem sortP_up (ps : List Pa) : (sortP ps).Pairwise fun a b => ltP a b = true := (Classical.choose_spec (sortP_ex ps)).2.2
theorem rise_nd {ps : List Pa} (h : ps.Pairwise fun a b => ltP a b = true) : ps.Nodup := h.imp fun {a b} h e => by subst e; rw [ltP_irr] at h; cases h
theorem sortP_len (ps : List Pa) : (sortP ps).length ≤ ps.length := List.Nodup.length_le_of_subset (rise_nd (sortP_up ps)) fun _ h => mem_sortP.mp h
theorem sortP_ro {ps : List Pa} (hok : ∀ p ∈ ps, okP p) (hl : ps.length ≤ 24) : Ro (sortP ps) := ⟨fun p hp => hok p (mem_sortP.mp hp), sortP_up ps, Nat.le_trans (sortP_len ps) hl⟩
theorem sortRowsP {d : Z.D} {ps : List Pa} {S : Sto} (h : seqR d S = some (ps.map Pa.D)) (hl : ps.length < 64) : dSortRows d S = .ok (.lst ((sortP ps).map Pa.D)) S := by
  unfold dSortRows
  rw [h]
  simp only [rowsOf_ps]
  rw [show rowsOk (ps.map Pa.row) = true from rowsOk_ps hl, sortP_row, rows_D]
  rfl
/-! ### lists of numbers compared -/
end Sp

/-! SqR: more rolls drawn. -/
namespace Sp
open PySem L2 Z
variable [Rz]
variable {l : Nat} {S S' : Sto} {Q : Z.D → Sto → Prop} {b : Be} {ps : List Pa}
end Sp

/-! SrN: tables compared; first_apart. -/
namespace Sp
open PySem L2 Z
set_option synthInstance.maxSize 10000 in
instance decRow : DecidableEq (Option (Wd × Int × Int × Int × Int × Option Int)) := inferInstance
abbrev Row := Option (Wd × Int × Int × Int × Int × Option Int)
/-! ### where two rolls part -/
section
variable {b : Be} {ps qs : List Pa}
end
variable [Rz]
variable {S S' : Sto} {b : Be} {ps qs : List Pa}
end Sp

/-! SqS: rolls with a paper less, otherwise; short rolls. -/
namespace Sp
open PySem L2 Z
def without (ps : List Pa) (p : Pa) : List Pa := ps.filter fun q => !decide (q = p)
theorem without_ro {ps : List Pa} (h : Ro ps) (p : Pa) : Ro (without ps p) := h.sub List.filter_sublist
theorem without_lt {ps : List Pa} {p : Pa} (h : p ∈ ps) : (without ps p).length < ps.length := by
  unfold without
  rw [List.length_filter_lt_length_iff_exists]
  exact ⟨p, h, by simp⟩
theorem cut_drop {ds : List Z.D} {i : Int} (h : 0 ≤ i) : cutD ds (some i) none = ds.drop i.toNat := by
  obtain ⟨k, rfl⟩ : ∃ k : Nat, i = k := ⟨i.toNat, by omega⟩
  unfold cutD
  have e1 : HT.sIx ds.length 0 (some (k : Int)) = min k _ := HT.sIx_nat _ _ k
  have e2 : HT.sIx ds.length ds.length none = ds.length := rfl
  rw [e1, e2, Int.toNat_natCast]
  rcases Nat.le_total k ds.length with h | h
  · rw [Nat.min_eq_left h, List.take_of_length_le (by simp)]
  · rw [Nat.min_eq_right h, List.drop_eq_nil_of_le (Nat.le_refl _), List.drop_eq_nil_of_le h]; simp
theorem sl1 (p : Pa) (S : Sto) : dSl p.D (some 1) none S = .ok (.tup (p.row.tail.map keyD)) S := by
  have e : p.D = .tup (p.row.map keyD) := rfl
  rw [e, x_slT, cut_drop (by decide)]
  cases p <;> rfl
variable [Rz]
variable {l : Nat} {S S' : Sto} {Q : Z.D → Sto → Prop} {b : Be} {ps : List Pa}
theorem without_ok (hl : ps.length ≤ 1000) (p : Pa) (S : Sto) : Pg.m_without_paper [.tup (ps.map Pa.D), p.D] S = .ok (.tup ((without ps p).map Pa.D)) S := by
  have el : ∀ x, lcL [] (.nm 2) [2] (mB (mBin dNe (mVar 2) (mVar 1))) (mVar 2) (ps.map Pa.D) [some (.tup (ps.map Pa.D)), some p.D, x] S = .ok ((without ps p).map Pa.D) S := fun x => by
    refine lc_src (g := .nm 2) (vs := [2]) (f := Pa.D) (keep_nil S) (fun q => !decide (q = p)) Pa.D ps fun q hq => ⟨_, rfl, ?_, fun _ => ?_⟩
    · refine wp_eq ?_
      simp [wipeT, dNe_pa]
    · refine wp_eq ?_
      simp [wipeT]
  refine wp_eq ?_
  unfold Pg.m_without_paper
  have hlen : (ps.map Pa.D).length ≤ 16777216 := by simp; omega
  generalize ps.map Pa.D = ds at *
  generalize (without ps p).map Pa.D = out at *
  simp [el, hz, hlen]
end Sp

/-! SrO: idle papers, bare rolls. -/
namespace Sp
open PySem L2 Z
/-! ### tables as plain data -/
def tabR (b : Be) (ps : List Pa) : List (List Row) := (List.range 61).map fun d : Nat => (List.range 6).map fun c : Nat => cell1 b ps d c
/-! ### idle papers -/
def idleB (b : Be) (ps : List Pa) (p : Pa) : Bool := decide (tabR b (without ps p) = tabR b ps)
def greatest (b : Be) (ps : List Pa) : Option Pa := ps.reverse.find? (idleB b ps)
theorem greatest_mem {b : Be} {ps : List Pa} {p : Pa} (h : greatest b ps = some p) : p ∈ ps := List.mem_reverse.mp (List.mem_of_find?_eq_some h)
noncomputable def bare (b : Be) (ps : List Pa) : List Pa := match h : greatest b ps with
  | none => ps
  | some p => bare b (without ps p)
termination_by ps.length
decreasing_by exact without_lt (greatest_mem h)
variable [Rz]
variable {l : Nat} {S S' : Sto} {b : Be} {ps : List Pa}
/-! ### lists of idle papers -/
end Sp

/-! SqT: what a judge paper would become, as the law says; the law's states kept. -/
namespace Sp
open PySem L2 Z
section
variable {τ : Tau} {S : Sto}
@[simp] theorem x_lstRg1 (a : ME) : mLstRg1 a τ S = (a τ S).bind fun x S1 => match x with
  | .int j => guardR (-(2 ^ 62) ≤ j ∧ j < 2 ^ 62 ∧ j.toNat ≤ 2 ^ 24) (.ok (.lst ((rgI 0 j).map Z.D.int)) S1)
  | _ => .bad := rfl
@[simp] theorem x_lstRg3 (ms : MA) : mLstRg3 ms τ S = (ms τ S).bind fun ds S1 => match ds with
  | [.int i, .int j, .int c] => guardR (StepOk i j c) (.ok (.lst ((rgcI i j c).map Z.D.int)) S1)
  | _ => .bad := rfl
end
variable [Rz]
variable {l f m : Nat} {S S' : Sto} {Q : Z.D → Sto → Prop} {b : Be} {ps : List Pa} {st : St} {sd : Z.D}
/-- the law's states, kept where the pen works on -/
structure LS (l f m : Nat) (b : Be) (ps : List Pa) (rs : List Z.D) (S : Sto) : Prop where
  lm : l < m
  fl : f ≠ l
  at_ : S[f]? = some (.lst rs)
  ln : rs.length = 61
  rd : RdsL S m b ps rs
  pen : Pen l S
theorem LS.pf {rs : List Z.D} (h : LS l f m b ps rs S) (p : PF l S S') : LS l f m b ps rs S' :=
  { h with
    at_ := p.at h.at_ h.fl
    rd := fun i r hi => (h.rd i r hi).keep fun j hj hl => p.eq j hl (by have := h.lm; omega)
    pen := p.pen }
theorem LS.fr {rs : List Z.D} (h : LS l f m b ps rs S) (p : Fr S.length S S') : LS l f m b ps rs S' := h.pf (PF.fr h.pen p)
/-- the state of a day -/
theorem LS.get {rs : List Z.D} (h : LS l f m b ps rs S) {d : Int} (hd : 0 ≤ d ∧ d ≤ 60) : ∃ sd, dIxA (.loc f) (.int d) S = .ok sd S ∧ RdL S m sd (reading b (upto ps d)) := by
  obtain ⟨k, rfl⟩ : ∃ k : Nat, d = k := ⟨d.toNat, by omega⟩
  have hk : k < rs.length := by have := h.ln; omega
  refine ⟨rs[k], ?_, h.rd k _ (List.getElem?_eq_getElem hk)⟩
  rw [x_ixLl h.at_, Z.atI_nat hk, List.getElem?_eq_getElem hk]
  rfl
end Sp

/-! SrP: papers that lead a cause to a word; outcomes, standing, taken_back. -/
namespace Sp
open PySem L2 Z
section
variable {b : Be}
end
variable [Rz]
variable {S S' : Sto} {b : Be} {ps : List Pa}
theorem outcomes_ok (hB : OkBB b) (hR : Ro ps) (S : Sto) : ∃ S' l, Pg.m_outcomes [b.D, .tup (ps.map Pa.D)] S = .ok (.loc l) S' ∧ Fr S.length S S' ∧ S'[l]? = some (.lst ((reading b ps).words.map .str)) := by
  obtain ⟨S1, r, ℓ, e1, f1, R⟩ := read_by_wp hB.toOkB hR.rl S
  have n1 := nboth hB hR S
  refine ⟨S1, r + 3, ?_, f1, R.wo⟩
  generalize Z.D.tup (ps.map Pa.D) = pd at *
  refine wp_eq ?_
  unfold Pg.m_outcomes
  simp [n1, e1, R.me, lr_words]
theorem taken_ok (hR : Ro ps) {p : Pa} (hp : p ∈ ps) (S : Sto) : Pg.m_taken_back [.tup (ps.map Pa.D), p.D] S = .ok (.tup ((without ps p).map Pa.D)) S := by
  have h24 := hR.ln
  have n1 := nroll hR S
  have n2 := npaper (hR.ok p hp) S
  have hin : inP p.D (.tup (ps.map Pa.D)) S = some true := by rw [in_paT]; simp [hp]
  have e3 : Pg.m_need_in [.tup (ps.map Pa.D), p.D] S = .ok .non S := by
    refine wp_eq ?_
    unfold Pg.m_need_in
    generalize Z.D.tup (ps.map Pa.D) = pd at *
    simp [hin]
  have e4 := without_ok (ps := ps) (by omega) p S
  generalize Z.D.tup (ps.map Pa.D) = pd at *
  generalize Z.D.tup ((without ps p).map Pa.D) = wd at *
  refine wp_eq ?_
  unfold Pg.m_taken_back
  simp [n1, n2, e3, e4]
end Sp

/-! StH: the pen of the older reading; one sitting a day; words shown. -/
namespace Sp
open PySem L2 Z
variable [Rz]
variable {l : Nat} {S S' : Sto} {Q : Z.D → Sto → Prop} {b : Be} {ps : List Pa}
theorem drawV {n : Int} (hp : Pen l S) (h0 : 0 < n) (h1 : n < 1073741824) (k : ∀ r S', 0 ≤ r → r < n → PF l S S' → Q (.int r) S') : wpR (V1.m_law_draw [.loc l, .int n] S) Q := draw2 hp h0 h1 k
theorem penV {c : Int} (k : ∀ S', PF S.length (S ++ [.lst []]) S' → S'.length = S.length + 1 → Q (.loc S.length) S') : wpR (V1.m_law_pen [.int c] S) Q := pen2 k
theorem cellV {cs : List Int} {n : Int} (h0 : 0 ≤ n) (k : ∀ c : Int, Q (.int c) S) : wpR (V1.m_law_cell [.scr (cs.map Z.D.int), .int n] S) Q := cell2 h0 k
omit [Rz] in
theorem adj_up : ∀ {ts : List (Int × Int × Int)}, adjT ts = true → (∀ t ∈ ts, t.1 ≤ t.2.1) → ts.Pairwise fun s t => s.2.1 < t.1
  | [], _, _ => .nil
  | [t], _, _ => by simp
  | s :: t :: r, h, h2 => by
    simp only [adjT, Bool.and_eq_true, decide_eq_true_eq] at h
    have ih := adj_up (ts := t :: r) h.2 fun u hu => h2 u (by simp [hu])
    refine List.pairwise_cons.mpr ⟨fun u hu => ?_, ih⟩
    rcases List.mem_cons.mp hu with rfl | hu
    · exact h.1
    · have := (List.pairwise_cons.mp ih).1 u hu
      have := h2 t (by simp)
      omega
omit [Rz] in
theorem oneSit (h : OkBB b) : OneSit b := fun d => by
  have hp := (adj_up h.ch fun t ht => (h.ts t ht).2.1).sublist (List.filter_sublist (p := fun t => decide (t.1 ≤ d) && decide (d ≤ t.2.1)))
  have hm : ∀ t ∈ b.ts.filter (fun t => decide (t.1 ≤ d) && decide (d ≤ t.2.1)), t.1 ≤ d ∧ d ≤ t.2.1 := fun t ht => by simpa using (List.mem_filter.mp ht).2
  revert hp hm
  cases b.ts.filter (fun t => decide (t.1 ≤ d) && decide (d ≤ t.2.1)) with
  | nil => intro _ _; exact Nat.zero_le _
  | cons s r =>
    cases r with
    | nil => intro _ _; exact Nat.le_refl _
    | cons t r =>
      intro hp hm
      have := (List.pairwise_cons.mp hp).1 t (by simp)
      have := hm s (by simp)
      have := hm t (by simp)
      omega
omit [Rz] in
theorem Gq_w {w : Str} {ks : List Nat} (h : okW w) : Gq ks (.str w) = true := by
  refine Gq_s ?_
  simp only [okW, List.mem_cons, List.not_mem_nil, or_false] at h
  rcases h with rfl | rfl | rfl | rfl | rfl | rfl | rfl | rfl | rfl | rfl | rfl | rfl | rfl | rfl | rfl | rfl | rfl | rfl | rfl <;> decide +kernel
omit [Rz] in
theorem Gq_words (hB : OkB b) (hR : Ro ps) : Gq [24] (.lst ((reading b ps).words.map .str)) = true := by
  have h := reading_okS hB hR.rl (E := 60) (by decide) fun p hp => (okP_day (hR.ok p hp)).2
  have h3 := h.l3
  have hl := hR.ln
  refine Gq_lst (by rw [List.length_map]; omega) fun d hd => ?_
  obtain ⟨w, hw, rfl⟩ := List.mem_map.mp hd
  exact Gq_w (h.wo w hw)
mutual
theorem plainV : ∀ p : PyData, p.hasDict = false → p.plain = true
  | .none, _ => rfl
  | .bool _, _ => rfl
  | .int _, _ => rfl
  | .str _, _ => rfl
  | .list ps, h => by simp only [PyData.hasDict] at h; simp only [PyData.plain]; exact plainVs ps h
  | .tuple ps, h => by simp only [PyData.hasDict] at h; simp only [PyData.plain]; exact plainVs ps h
  | .dict ps, h => by simp only [PyData.hasDict] at h; cases h
theorem plainVs : ∀ ps : List PyData, PyData.hasDictAll ps = false → PyData.plainAll ps = true
  | [], _ => rfl
  | p :: ps, h => by
    simp only [PyData.hasDictAll, Bool.or_eq_false_iff] at h
    simp only [PyData.plainAll, plainV p h.1, plainVs ps h.2, Bool.and_self]
end
theorem ne_cellsV {ks : List Nat} {ds : List Z.D} (h : Gq ks (.lst ds) = true) (hk : ks.length ≤ 64) {l m : Nat} (h1 : S[l]? = some (.lst ds)) (h2 : S[m]? = some (.lst ds)) : dNe (.loc l) (.loc m) S = .ok (.bl false) S := by
  obtain ⟨p, hp⟩ := Gq_py ks _ h
  have e1 := plainV p hp.nd
  have e2 := SeqAt.eqv_refl_plain p e1
  have e3 : plainB p p = true := by
    have := hp.dp
    simp [plainB, e1]
    omega
  have q1 : toPy (.loc l) S = some p := by
    have := hp.py
    simp only [toPyD] at this
    simp [toPy, h1, this]
  have q2 : toPy (.loc m) S = some p := by
    have := hp.py
    simp only [toPyD] at this
    simp [toPy, h2, this]
  unfold dNe dDat
  rw [q1, q2]
  simp only [e3, if_true, e2]
  rfl
end Sp

/-! what each def does -/
namespace Lk12
open PySem L2 Z Pg V1
instance : Rz := ⟨fun _ => sBad⟩
noncomputable def m_law_made : List D → Sto → R D := runD 1 17 (sSeq (sPar [8, 9] (aCons (mBin dAdd (mC (.int 2)) (mCall m_law_draw (aCons (mVar 0) (aCons (mC (.int 4)) aNil)))) (aCons (mBin dAdd (mC (.int 2)) (mCall m_law_draw (aCons (mVar 0) (aCons (mC (.int 6)) aNil)))) aNil)))
  (sSeq (sPar [10, 11] (aCons (mCall m_law_draw (aCons (mVar 0) (aCons (mC (.int 4)) aNil))) (aCons (mBin dAdd (mC (.int 1)) (mCall m_law_draw (aCons (mVar 0) (aCons (mC (.int 6)) aNil)))) aNil)))
  (sSeq (sAsg 1 (mBin dAdd (mBin dAdd (mBin dAdd (mVar 8) (mVar 9)) (mC (.int 2))) (mCall m_law_draw (aCons (mVar 0) (aCons (mC (.int 4)) aNil)))))
  (sSeq (sAsg 2 (mTup (aCons (mTup (aCons (mVar 8) (aCons (mBin dAdd (mVar 8) (mVar 9)) (aCons (mVar 10) aNil)))) (aCons (mTup (aCons (mVar 1) (aCons (mBin dAdd (mVar 1) (mVar 9)) (aCons (mVar 10) aNil)))) (aCons (mTup (aCons (mBin dAdd (mBin dAdd (mVar 1) (mVar 9)) (mC (.int 3))) (aCons (mC (.int 50)) (aCons (mBin dMod (mBin dAdd (mVar 10) (mC (.int 1))) (mC (.int 4))) aNil)))) aNil)))))
  (sSeq (sAsg 3 (mTup (aCons (mVar 2) (aCons (mVar 11) (aCons (mCall m_law_draw (aCons (mVar 0) (aCons (mC (.int 3)) aNil))) (aCons (mBin dAdd (mC (.int 1)) (mCall m_law_draw (aCons (mVar 0) (aCons (mC (.int 2)) aNil)))) aNil))))))
  (sSeq (sAsg 4 (mLstN (aCons (mTup (aCons (mC (.int 0)) (aCons (mC (.str "charge")) (aCons (mC (.int 0)) (aCons (mC (.int 0)) (aCons (mC (.int 0)) (aCons (mVar 10) aNil))))))) (aCons (mTup (aCons (mC (.int 0)) (aCons (mC (.str "charge")) (aCons (mC (.int 1)) (aCons (mBin dIxA (mLst (aCons (mC (.int 0)) (aCons (mC (.int 1)) aNil))) (mCall m_law_draw (aCons (mVar 0) (aCons (mC (.int 2)) aNil)))) (aCons (mC (.int 0)) (aCons (mVar 10) aNil))))))) (aCons (mTup (aCons (mC (.int 0)) (aCons (mC (.str "hold")) (aCons (mC (.int 0)) aNil)))) aNil)))))
  (sSeq (sAsg 4 (mBin dAddN (mVar 4) (mLst (aCons (mTup (aCons (mVar 8) (aCons (mC (.str "bill")) (aCons (mC (.int 0)) (aCons (mC (.int 1)) aNil))))) (aCons (mTup (aCons (mVar 8) (aCons (mC (.str "bill")) (aCons (mC (.int 1)) (aCons (mC (.int 1)) aNil))))) (aCons (mTup (aCons (mC (.int 1)) (aCons (mC (.str "hold")) (aCons (mC (.int 1)) aNil)))) (aCons (mTup (aCons (mC (.int 1)) (aCons (mC (.str "pledge")) (aCons (mC (.int 0)) (aCons (mC (.int 2)) aNil))))) aNil)))))))
  (sSeq (sAsg 5 (mLst (aCons (mC (.int 1)) (aCons (mVar 8) (aCons (mBin dAdd (mVar 8) (mC (.int 1))) (aCons (mBin dAdd (mVar 8) (mVar 9)) (aCons (mBin dAdd (mBin dAdd (mVar 8) (mVar 9)) (mC (.int 1))) (aCons (mVar 1) (aCons (mBin dAdd (mVar 1) (mC (.int 1))) (aCons (mBin dAdd (mBin dAdd (mVar 1) (mVar 9)) (mC (.int 2))) (aCons (mC (.int 49)) aNil)))))))))))
  (sSeq (sAsg 6 (mLst (aCons (mC (.str "hold")) (aCons (mC (.str "over")) (aCons (mC (.str "judge")) (aCons (mC (.str "pledge")) (aCons (mC (.str "miss")) (aCons (mC (.str "move")) (aCons (mC (.str "aside")) (aCons (mC (.str "bill")) (aCons (mC (.str "charge")) (aCons (mC (.str "pardon")) aNil))))))))))))
  (sSeq (sFor (iArgs range1 (aCons (mBin dAdd (mC (.int 4)) (mCall m_law_draw (aCons (mVar 0) (aCons (mC (.int 12)) aNil)))) aNil)) (.nm 7) (sSeq (sPar [13, 14] (aCons (mBin dIxA (mVar 5) (mCall m_law_draw (aCons (mVar 0) (aCons (mC (.int 9)) aNil)))) (aCons (mBin dIxA (mVar 6) (mCall m_law_draw (aCons (mVar 0) (aCons (mC (.int 10)) aNil)))) aNil)))
  (sSeq (sPar [15, 16] (aCons (mCall m_law_draw (aCons (mVar 0) (aCons (mC (.int 2)) aNil))) (aCons (mCall m_law_draw (aCons (mVar 0) (aCons (mC (.int 2)) aNil))) aNil)))
  (sSeq (sAsg 12 (mDispN [((mC (.str "judge")), (mTup (aCons (mVar 15) (aCons (mVar 16) aNil)))), ((mC (.str "bill")), (mTup (aCons (mVar 15) (aCons (mVar 16) aNil)))), ((mC (.str "pledge")), (mTup (aCons (mVar 15) (aCons (mCall m_law_draw (aCons (mVar 0) (aCons (mC (.int 3)) aNil))) aNil))))]))
  (sSeq (sExpr (mMeth "dict" dUpdate (mVar 12) (aCons (mDisp [((mC (.str "move")), (mTup (aCons (mVar 15) (aCons (mBin dMod (mBin dAdd (mVar 10) (mCall m_law_draw (aCons (mVar 0) (aCons (mC (.int 2)) aNil)))) (mC (.int 4))) aNil)))), ((mC (.str "charge")), (mTup (aCons (mC (.int 2)) (aCons (mVar 16) (aCons (mC (.int 0)) (aCons (mVar 10) aNil)))))), ((mC (.str "pardon")), (mTup (aCons (mC (.int 1)) (aCons (mC (.int 0)) aNil))))]) aNil)))
  (sExpr (mMeth "list" dAppend (mVar 4) (aCons (mBin dAdd (mTup (aCons (mVar 13) (aCons (mVar 14) aNil))) (mMeth "dict" dGet2 (mVar 12) (aCons (mVar 14) (aCons (mTup (aCons (mVar 15) aNil)) aNil)))) aNil))))))))
  (sRet (mTup (aCons (mVar 3) (aCons (mCall dTuple (aCons (mUn dSortRows (mVar 4)) aNil)) aNil))))))))))))))
noncomputable def m_law : List D → Sto → R D := runD 1 8 (sSeq (sFor (iSeq (mBin dAdd (mLst (aCons (mCall m_law_cell (aCons (mVar 0) (aCons (mC (.int 0)) aNil))) aNil)) (mSl (mVar 0) (some (mC (.int 1))) (some (mC (.int 3)))))) (.nm 1) (sSeq (sAsg 2 (mCall m_law_pen (aCons (mVar 1) aNil)))
  (sFor (iArgs range1 (aCons (mC (.int 2)) aNil)) (.nm 3) (sSeq (sTup [5, 6] (mCall m_law_made (aCons (mVar 2) aNil)))
  (sSeq (sIf (mB (mBin dNe (mCall dRepr (aCons (mCall m_outcomes (aCons (mVar 5) (aCons (mVar 6) aNil))) aNil)) (mCall dRepr (aCons (mBin dIxA (mCall m_law_read (aCons (mVar 5) (aCons (mVar 6) aNil))) (mC (.int 0))) aNil)))) (sRet (mC (.bl false))) sNil)
  (sFor (iSeq (mVar 6)) (.nm 4) (sSeq (sAsg 7 (mCall m_taken_back (aCons (mVar 6) (aCons (mVar 4) aNil))))
  (sIf (mB (mBin dNe (mCall m_outcomes (aCons (mVar 5) (aCons (mVar 7) aNil))) (mBin dIxA (mCall m_law_read (aCons (mVar 5) (aCons (mVar 7) aNil))) (mC (.int 0))))) (sRet (mC (.bl false))) sNil))))))))
  (sRet (mC (.bl true))))
end Lk12

/-! each def keeps it -/
namespace Lk12
open PySem L2 Z Pg V1
def top (i : Nat) : Stmt := PySem.Challenge.pw_ridingbench_k12_reasons_that_hold_at_onc.main.body.getD i (.Pass ⟨0, 0, 0, 0⟩)
/-- what stands behind the top -/
structure Tx (Wp : Params) (K : PySem.W.Frag) (mg : Str → Option Value) where
  a_is_within : Addr
  fd_is_within : FuncData
  F_is_within : Fun K "is_within" "is_within" (top 15) a_is_within fd_is_within
  g_is_within : mg "is_within" = some (.ref a_is_within)
  b_is_within : Binds K fd_is_within ["thing", "least", "most"] []
  a_is_upto : Addr
  fd_is_upto : FuncData
  F_is_upto : Fun K "is_upto" "is_upto" (top 16) a_is_upto fd_is_upto
  g_is_upto : mg "is_upto" = some (.ref a_is_upto)
  b_is_upto : Binds K fd_is_upto ["thing", "many"] []
  a_is_sitting : Addr
  fd_is_sitting : FuncData
  F_is_sitting : Fun K "is_sitting" "is_sitting" (top 17) a_is_sitting fd_is_sitting
  g_is_sitting : mg "is_sitting" = some (.ref a_is_sitting)
  b_is_sitting : Binds K fd_is_sitting ["thing"] []
  a_is_round : Addr
  fd_is_round : FuncData
  F_is_round : Fun K "is_round" "is_round" (top 18) a_is_round fd_is_round
  g_is_round : mg "is_round" = some (.ref a_is_round)
  b_is_round : Binds K fd_is_round ["thing"] []
  a_is_bench : Addr
  fd_is_bench : FuncData
  F_is_bench : Fun K "is_bench" "is_bench" (top 19) a_is_bench fd_is_bench
  g_is_bench : mg "is_bench" = some (.ref a_is_bench)
  b_is_bench : Binds K fd_is_bench ["thing"] []
  a_is_paper : Addr
  fd_is_paper : FuncData
  F_is_paper : Fun K "is_paper" "is_paper" (top 20) a_is_paper fd_is_paper
  g_is_paper : mg "is_paper" = some (.ref a_is_paper)
  b_is_paper : Binds K fd_is_paper ["thing"] []
  a_is_roll : Addr
  fd_is_roll : FuncData
  F_is_roll : Fun K "is_roll" "is_roll" (top 21) a_is_roll fd_is_roll
  g_is_roll : mg "is_roll" = some (.ref a_is_roll)
  b_is_roll : Binds K fd_is_roll ["thing"] []
  a_need_bench : Addr
  fd_need_bench : FuncData
  F_need_bench : Fun K "need_bench" "need_bench" (top 22) a_need_bench fd_need_bench
  g_need_bench : mg "need_bench" = some (.ref a_need_bench)
  b_need_bench : Binds K fd_need_bench ["thing"] []
  a_need_paper : Addr
  fd_need_paper : FuncData
  F_need_paper : Fun K "need_paper" "need_paper" (top 23) a_need_paper fd_need_paper
  g_need_paper : mg "need_paper" = some (.ref a_need_paper)
  b_need_paper : Binds K fd_need_paper ["thing"] []
  a_need_roll : Addr
  fd_need_roll : FuncData
  F_need_roll : Fun K "need_roll" "need_roll" (top 24) a_need_roll fd_need_roll
  g_need_roll : mg "need_roll" = some (.ref a_need_roll)
  b_need_roll : Binds K fd_need_roll ["thing"] []
  a_need_both : Addr
  fd_need_both : FuncData
  F_need_both : Fun K "need_both" "need_both" (top 25) a_need_both fd_need_both
  g_need_both : mg "need_both" = some (.ref a_need_both)
  b_need_both : Binds K fd_need_both ["bench", "roll"] []
  a_need_in : Addr
  fd_need_in : FuncData
  F_need_in : Fun K "need_in" "need_in" (top 27) a_need_in fd_need_in
  g_need_in : mg "need_in" = some (.ref a_need_in)
  b_need_in : Binds K fd_need_in ["roll", "paper"] []
  a_without_paper : Addr
  fd_without_paper : FuncData
  F_without_paper : Fun K "without_paper" "without_paper" (top 28) a_without_paper fd_without_paper
  g_without_paper : mg "without_paper" = some (.ref a_without_paper)
  b_without_paper : Binds K fd_without_paper ["roll", "paper"] []
  a_taken_back : Addr
  fd_taken_back : FuncData
  F_taken_back : Fun K "taken_back" "taken_back" (top 29) a_taken_back fd_taken_back
  g_taken_back : mg "taken_back" = some (.ref a_taken_back)
  b_taken_back : Binds K fd_taken_back ["roll", "paper"] []
  a_sitting_on : Addr
  fd_sitting_on : FuncData
  F_sitting_on : Fun K "sitting_on" "sitting_on" (top 31) a_sitting_on fd_sitting_on
  g_sitting_on : mg "sitting_on" = some (.ref a_sitting_on)
  b_sitting_on : Binds K fd_sitting_on ["bench", "day"] []
  a_Cause_init : Addr
  fd_Cause_init : FuncData
  F_Cause_init : Fun K "__init__" "Cause.__init__" (clsDef (top 36) 0) a_Cause_init fd_Cause_init
  b_Cause_init : Binds K fd_Cause_init ["self", "person", "deed", "town"] []
  a_Cause_used : Addr
  fd_Cause_used : FuncData
  F_Cause_used : Fun K "used" "Cause.used" (clsDef (top 36) 1) a_Cause_used fd_Cause_used
  b_Cause_used : Binds K fd_Cause_used ["self", "most", "day"] []
  a_Cause_is_held : Addr
  fd_Cause_is_held : FuncData
  F_Cause_is_held : Fun K "is_held" "Cause.is_held" (clsDef (top 36) 2) a_Cause_is_held fd_Cause_is_held
  b_Cause_is_held : Binds K fd_Cause_is_held ["self", "most", "day"] []
  a_Cause_days_to : Addr
  fd_Cause_days_to : FuncData
  F_Cause_days_to : Fun K "days_to" "Cause.days_to" (clsDef (top 36) 3) a_Cause_days_to fd_Cause_days_to
  b_Cause_days_to : Binds K fd_Cause_days_to ["self", "most", "day"] []
  a_Cause_let_go : Addr
  fd_Cause_let_go : FuncData
  F_Cause_let_go : Fun K "let_go" "Cause.let_go" (clsDef (top 36) 4) a_Cause_let_go fd_Cause_let_go
  b_Cause_let_go : Binds K fd_Cause_let_go ["self", "most", "day"] []
  a_Cause_end : Addr
  fd_Cause_end : FuncData
  F_Cause_end : Fun K "end" "Cause.end" (clsDef (top 36) 5) a_Cause_end fd_Cause_end
  b_Cause_end : Binds K fd_Cause_end ["self", "most", "day", "word"] []
  a_Reading_init : Addr
  fd_Reading_init : FuncData
  F_Reading_init : Fun K "__init__" "Reading.__init__" (clsDef (top 37) 0) a_Reading_init fd_Reading_init
  b_Reading_init : Binds K fd_Reading_init ["self", "bench", "struck", "done"] []
  a_Reading_is_away : Addr
  fd_Reading_is_away : FuncData
  F_Reading_is_away : Fun K "is_away" "Reading.is_away" (clsDef (top 37) 1) a_Reading_is_away fd_Reading_is_away
  b_Reading_is_away : Binds K fd_Reading_is_away ["self", "cause", "day"] []
  a_Reading_other_judged : Addr
  fd_Reading_other_judged : FuncData
  F_Reading_other_judged : Fun K "other_judged" "Reading.other_judged" (clsDef (top 37) 2) a_Reading_other_judged fd_Reading_other_judged
  b_Reading_other_judged : Binds K fd_Reading_other_judged ["self", "number", "person", "deed"] []
  a_Reading_judge : Addr
  fd_Reading_judge : FuncData
  F_Reading_judge : Fun K "judge" "Reading.judge" (clsDef (top 37) 14) a_Reading_judge fd_Reading_judge
  b_Reading_judge : Binds K fd_Reading_judge ["self", "paper", "cause"] []
  a_Reading_bill : Addr
  fd_Reading_bill : FuncData
  F_Reading_bill : Fun K "bill" "Reading.bill" (clsDef (top 37) 11) a_Reading_bill fd_Reading_bill
  b_Reading_bill : Binds K fd_Reading_bill ["self", "day", "cause", "good"] []
  a_Reading_miss : Addr
  fd_Reading_miss : FuncData
  F_Reading_miss : Fun K "miss" "Reading.miss" (clsDef (top 37) 12) a_Reading_miss fd_Reading_miss
  b_Reading_miss : Binds K fd_Reading_miss ["self", "day", "cause", "number"] []
  a_Reading_put_over : Addr
  fd_Reading_put_over : FuncData
  F_Reading_put_over : Fun K "put_over" "Reading.put_over" (clsDef (top 37) 13) a_Reading_put_over fd_Reading_put_over
  b_Reading_put_over : Binds K fd_Reading_put_over ["self", "day", "cause"] []
  a_Reading_by_bench : Addr
  fd_Reading_by_bench : FuncData
  F_Reading_by_bench : Fun K "by_bench" "Reading.by_bench" (clsDef (top 37) 10) a_Reading_by_bench fd_Reading_by_bench
  b_Reading_by_bench : Binds K fd_Reading_by_bench ["self", "paper", "cause"] []
  a_Reading_charge : Addr
  fd_Reading_charge : FuncData
  F_Reading_charge : Fun K "charge" "Reading.charge" (clsDef (top 37) 4) a_Reading_charge fd_Reading_charge
  b_Reading_charge : Binds K fd_Reading_charge ["self", "paper"] []
  a_Reading_pardon : Addr
  fd_Reading_pardon : FuncData
  F_Reading_pardon : Fun K "pardon" "Reading.pardon" (clsDef (top 37) 5) a_Reading_pardon fd_Reading_pardon
  b_Reading_pardon : Binds K fd_Reading_pardon ["self", "day", "both"] []
  a_Reading_aside : Addr
  fd_Reading_aside : FuncData
  F_Reading_aside : Fun K "aside" "Reading.aside" (clsDef (top 37) 6) a_Reading_aside fd_Reading_aside
  b_Reading_aside : Binds K fd_Reading_aside ["self", "paper", "cause"] []
  a_Reading_hold : Addr
  fd_Reading_hold : FuncData
  F_Reading_hold : Fun K "hold" "Reading.hold" (clsDef (top 37) 8) a_Reading_hold fd_Reading_hold
  b_Reading_hold : Binds K fd_Reading_hold ["self", "day", "cause"] []
  a_Reading_pledge : Addr
  fd_Reading_pledge : FuncData
  F_Reading_pledge : Fun K "pledge" "Reading.pledge" (clsDef (top 37) 9) a_Reading_pledge fd_Reading_pledge
  b_Reading_pledge : Binds K fd_Reading_pledge ["self", "day", "cause", "person"] []
  a_Reading_in_open : Addr
  fd_Reading_in_open : FuncData
  F_Reading_in_open : Fun K "in_open" "Reading.in_open" (clsDef (top 37) 7) a_Reading_in_open fd_Reading_in_open
  b_Reading_in_open : Binds K fd_Reading_in_open ["self", "paper", "cause"] []
  a_Reading_read : Addr
  fd_Reading_read : FuncData
  F_Reading_read : Fun K "read" "Reading.read" (clsDef (top 37) 3) a_Reading_read fd_Reading_read
  b_Reading_read : Binds K fd_Reading_read ["self", "paper"] []
  a_read_by : Addr
  fd_read_by : FuncData
  F_read_by : Fun K "read_by" "read_by" (top 38) a_read_by fd_read_by
  g_read_by : mg "read_by" = some (.ref a_read_by)
  b_read_by : Binds K fd_read_by ["bench", "papers"] []
  a_outcomes : Addr
  fd_outcomes : FuncData
  F_outcomes : Fun K "outcomes" "outcomes" (top 39) a_outcomes fd_outcomes
  g_outcomes : mg "outcomes" = some (.ref a_outcomes)
  b_outcomes : Binds K fd_outcomes ["bench", "roll"] []
  a_law_cell : Addr
  fd_law_cell : FuncData
  F_law_cell : Fun K "_law_cell" "_law_cell" (top 41) a_law_cell fd_law_cell
  g_law_cell : mg "_law_cell" = some (.ref a_law_cell)
  b_law_cell : Binds K fd_law_cell ["_law_script", "_law_k"] []
  a_law_pen : Addr
  fd_law_pen : FuncData
  F_law_pen : Fun K "_law_pen" "_law_pen" (top 42) a_law_pen fd_law_pen
  g_law_pen : mg "_law_pen" = some (.ref a_law_pen)
  b_law_pen : Binds K fd_law_pen ["_law_cell_here"] []
  a_law_draw : Addr
  fd_law_draw : FuncData
  F_law_draw : Fun K "_law_draw" "_law_draw" (top 43) a_law_draw fd_law_draw
  g_law_draw : mg "_law_draw" = some (.ref a_law_draw)
  b_law_draw : Binds K fd_law_draw ["_law_pen_here", "_law_many"] []
  a_law_cause : Addr
  fd_law_cause : FuncData
  F_law_cause : Fun K "_law_cause" "_law_cause" (top 44) a_law_cause fd_law_cause
  g_law_cause : mg "_law_cause" = some (.ref a_law_cause)
  b_law_cause : Binds K fd_law_cause ["_law_person", "_law_deed", "_law_town"] []
  a_law_held : Addr
  fd_law_held : FuncData
  F_law_held : Fun K "_law_held" "_law_held" (top 45) a_law_held fd_law_held
  g_law_held : mg "_law_held" = some (.ref a_law_held)
  b_law_held : Binds K fd_law_held ["_law_hold", "_law_cause_here", "_law_day"] []
  a_law_free : Addr
  fd_law_free : FuncData
  F_law_free : Fun K "_law_free" "_law_free" (top 46) a_law_free fd_law_free
  g_law_free : mg "_law_free" = some (.ref a_law_free)
  b_law_free : Binds K fd_law_free ["_law_hold", "_law_cause_here", "_law_day"] []
  a_law_close : Addr
  fd_law_close : FuncData
  F_law_close : Fun K "_law_close" "_law_close" (top 47) a_law_close fd_law_close
  g_law_close : mg "_law_close" = some (.ref a_law_close)
  b_law_close : Binds K fd_law_close ["_law_hold", "_law_cause_here", "_law_day", "_law_word"] []
  a_law_last : Addr
  fd_law_last : FuncData
  F_law_last : Fun K "_law_last" "_law_last" (top 48) a_law_last fd_law_last
  g_law_last : mg "_law_last" = some (.ref a_law_last)
  b_law_last : Binds K fd_law_last ["_law_bench", "_law_day", "_law_town"] []
  a_law_judged : Addr
  fd_law_judged : FuncData
  F_law_judged : Fun K "_law_judged" "_law_judged" (top 49) a_law_judged fd_law_judged
  g_law_judged : mg "_law_judged" = some (.ref a_law_judged)
  b_law_judged : Binds K fd_law_judged ["_law_causes", "_law_but", "_law_person", "_law_deed"] []
  a_law_charge : Addr
  fd_law_charge : FuncData
  F_law_charge : Fun K "_law_charge" "_law_charge" (top 50) a_law_charge fd_law_charge
  g_law_charge : mg "_law_charge" = some (.ref a_law_charge)
  b_law_charge : Binds K fd_law_charge ["_law_causes", "_law_pardons", "_law_paper"] []
  a_law_pardon : Addr
  fd_law_pardon : FuncData
  F_law_pardon : Fun K "_law_pardon" "_law_pardon" (top 51) a_law_pardon fd_law_pardon
  g_law_pardon : mg "_law_pardon" = some (.ref a_law_pardon)
  b_law_pardon : Binds K fd_law_pardon ["_law_hold", "_law_causes", "_law_pardons", "_law_paper"] []
  a_law_holds : Addr
  fd_law_holds : FuncData
  F_law_holds : Fun K "_law_holds" "_law_holds" (top 52) a_law_holds fd_law_holds
  g_law_holds : mg "_law_holds" = some (.ref a_law_holds)
  b_law_holds : Binds K fd_law_holds ["_law_hold", "_law_cause_here", "_law_day"] []
  a_law_pledges : Addr
  fd_law_pledges : FuncData
  F_law_pledges : Fun K "_law_pledges" "_law_pledges" (top 53) a_law_pledges fd_law_pledges
  g_law_pledges : mg "_law_pledges" = some (.ref a_law_pledges)
  b_law_pledges : Binds K fd_law_pledges ["_law_bench", "_law_causes", "_law_cause_here", "_law_day", "_law_person"] []
  a_law_misses : Addr
  fd_law_misses : FuncData
  F_law_misses : Fun K "_law_misses" "_law_misses" (top 54) a_law_misses fd_law_misses
  g_law_misses : mg "_law_misses" = some (.ref a_law_misses)
  b_law_misses : Binds K fd_law_misses ["_law_bench", "_law_cause_here", "_law_lost", "_law_paper"] []
  a_law_heard : Addr
  fd_law_heard : FuncData
  F_law_heard : Fun K "_law_heard" "_law_heard" (top 55) a_law_heard fd_law_heard
  g_law_heard : mg "_law_heard" = some (.ref a_law_heard)
  b_law_heard : Binds K fd_law_heard ["_law_bench", "_law_causes", "_law_cause_here", "_law_paper"] []
  a_law_done : Addr
  fd_law_done : FuncData
  F_law_done : Fun K "_law_done" "_law_done" (top 56) a_law_done fd_law_done
  g_law_done : mg "_law_done" = some (.ref a_law_done)
  b_law_done : Binds K fd_law_done ["_law_bench", "_law_causes", "_law_lost", "_law_paper"] []
  a_law_pass : Addr
  fd_law_pass : FuncData
  F_law_pass : Fun K "_law_pass" "_law_pass" (top 57) a_law_pass fd_law_pass
  g_law_pass : mg "_law_pass" = some (.ref a_law_pass)
  b_law_pass : Binds K fd_law_pass ["_law_bench", "_law_papers", "_law_struck"] []
  a_law_read : Addr
  fd_law_read : FuncData
  F_law_read : Fun K "_law_read" "_law_read" (top 58) a_law_read fd_law_read
  g_law_read : mg "_law_read" = some (.ref a_law_read)
  b_law_read : Binds K fd_law_read ["_law_bench", "_law_papers"] []
  a_law_made : Addr
  fd_law_made : FuncData
  F_law_made : Fun K "_law_made" "_law_made" (top 59) a_law_made fd_law_made
  g_law_made : mg "_law_made" = some (.ref a_law_made)
  b_law_made : Binds K fd_law_made ["_law_pen_here"] []
  a_law : Addr
  fd_law : FuncData
  F_law : Fun K "law" "law" (top 60) a_law fd_law
  g_law : mg "law" = some (.ref a_law)
  b_law : Binds K fd_law ["_law_script"] []
  e_Cause : Addr
  at_Cause : clsAt K "Cause" = .ref e_Cause
  gm_Cause : mg "Cause" = some (.ref e_Cause)
  cl_Cause : Cls K e_Cause
  f_Cause : ∀ f ∈ (["person", "deed", "town", "word", "since", "spent", "past", "pledger", "puts", "until", "by"] : List Str), FldC K "Cause" f e_Cause
  mk_Cause : Mk K e_Cause a_Cause_init
  me_Cause_used : Meth K e_Cause "used" a_Cause_used
  me_Cause_is_held : Meth K e_Cause "is_held" a_Cause_is_held
  me_Cause_days_to : Meth K e_Cause "days_to" a_Cause_days_to
  me_Cause_let_go : Meth K e_Cause "let_go" a_Cause_let_go
  me_Cause_end : Meth K e_Cause "end" a_Cause_end
  e_Reading : Addr
  at_Reading : clsAt K "Reading" = .ref e_Reading
  gm_Reading : mg "Reading" = some (.ref e_Reading)
  cl_Reading : Cls K e_Reading
  f_Reading : ∀ f ∈ (["bench", "struck", "done", "causes", "pardons", "words", "lost", "strike"] : List Str), FldC K "Reading" f e_Reading
  mk_Reading : Mk K e_Reading a_Reading_init
  me_Reading_is_away : Meth K e_Reading "is_away" a_Reading_is_away
  me_Reading_other_judged : Meth K e_Reading "other_judged" a_Reading_other_judged
  me_Reading_read : Meth K e_Reading "read" a_Reading_read
  me_Reading_charge : Meth K e_Reading "charge" a_Reading_charge
  me_Reading_pardon : Meth K e_Reading "pardon" a_Reading_pardon
  me_Reading_aside : Meth K e_Reading "aside" a_Reading_aside
  me_Reading_in_open : Meth K e_Reading "in_open" a_Reading_in_open
  me_Reading_hold : Meth K e_Reading "hold" a_Reading_hold
  me_Reading_pledge : Meth K e_Reading "pledge" a_Reading_pledge
  me_Reading_by_bench : Meth K e_Reading "by_bench" a_Reading_by_bench
  me_Reading_bill : Meth K e_Reading "bill" a_Reading_bill
  me_Reading_miss : Meth K e_Reading "miss" a_Reading_miss
  me_Reading_put_over : Meth K e_Reading "put_over" a_Reading_put_over
  me_Reading_judge : Meth K e_Reading "judge" a_Reading_judge
  n_all : mg "all" = none
  n_bool : mg "bool" = none
  n_divmod : mg "divmod" = none
  n_int : mg "int" = none
  n_isinstance : mg "isinstance" = none
  n_len : mg "len" = none
  n_list : mg "list" = none
  n_max : mg "max" = none
  n_min : mg "min" = none
  n_range : mg "range" = none
  n_repr : mg "repr" = none
  n_set : mg "set" = none
  n_sorted : mg "sorted" = none
  n_str : mg "str" = none
  n_tuple : mg "tuple" = none
  n_zip : mg "zip" = none
  c_DAYS : ∃ t, mg "DAYS" = some (.int 61 t)
  q_FORMS : Addr
  c_FORMS : mg "FORMS" = some (.ref q_FORMS)
  d_FORMS : KDG Wp K q_FORMS kd_FORMS
  q_JUDGED : Addr
  c_JUDGED : mg "JUDGED" = some (.ref q_JUDGED)
  v_JUDGED : LitV K (.ref q_JUDGED) (.ktup [.str "guilty", .str "clear"])
  c_MOST_PAPERS : ∃ t, mg "MOST_PAPERS" = some (.int 24 t)
  c_MOST_SITTINGS : ∃ t, mg "MOST_SITTINGS" = some (.int 8 t)
  q_OPEN : Addr
  c_OPEN : mg "OPEN" = some (.ref q_OPEN)
  v_OPEN : LitV K (.ref q_OPEN) (.ktup [.str "charged", .str "ready"])
  c_TAKES : ∃ t, mg "TAKES" = some (.str "takes" t)
  c_TOWNS : ∃ t, mg "TOWNS" = some (.int 4 t)
section
variable {P : Program} {w : World} {K : PySem.W.Frag} {mg : Str → Option Value} {base : Heap}
abbrev N_is_within : List Str := ["thing", "least", "most"]
theorem sc_is_within : FnScope N_is_within ["thing", "least", "most"] (defScope (top 15)) := ⟨rfl, rfl, rfl, by decide +kernel, rfl, by decide +kernel, by decide +kernel⟩
theorem okK_is_within (T : Tx w.params K mg) : FnK P w K mg base 1 T.a_is_within T.fd_is_within ["thing", "least", "most"] m_is_within := by
  refine fnK_of (N := N_is_within) (k := 0) T.F_is_within sc_is_within rfl fun cdv A fs s H E hr => ?_
  have hu := un100 hr
  have sc := sc_is_within
  exact (ss_one (s_ret (v_and (z_blt T.n_isinstance call_isaP dIsa_ok PyProof.Rows.boot_isinstance (a_cons (z_var 0 (pv 0)) (a_cons (z_ty T.n_int PyProof.Rows.boot_int) a_nil))) (v_and (v_not (z_blt T.n_isinstance call_isaP dIsa_ok PyProof.Rows.boot_isinstance (a_cons (z_var 0 (pv 0)) (a_cons (z_ty T.n_bool PyProof.Rows.boot_bool) a_nil)))) (v_and1 (e_chain (c_le hu) (c_le hu) (z_var 1 (pv 1)) (z_var 0 (pv 0)) (z_var 2 (pv 2))))))))
abbrev N_is_upto : List Str := ["thing", "many"]
theorem sc_is_upto : FnScope N_is_upto ["thing", "many"] (defScope (top 16)) := ⟨rfl, rfl, rfl, by decide +kernel, rfl, by decide +kernel, by decide +kernel⟩
theorem okK_is_upto (T : Tx w.params K mg) : FnK P w K mg base 2 T.a_is_upto T.fd_is_upto ["thing", "many"] m_is_upto := by
  refine fnK_of (N := N_is_upto) (k := 1) T.F_is_upto sc_is_upto rfl fun cdv A fs s H E hr => ?_
  have hu := un100 hr
  have sc := sc_is_upto
  exact (ss_one (s_ret (z_callK (okK_is_within T) (hr.mono (by decide)) T.g_is_within T.F_is_within.kp T.b_is_within (passAt (takes_of rfl rfl rfl rfl)) (a_cons (z_var 0 (pv 0)) (a_cons z_int (a_cons (z_sub (z_var 1 (pv 1)) z_int) a_nil))))))
abbrev N_is_sitting : List Str := ["thing"]
theorem sc_is_sitting : FnScope N_is_sitting ["thing"] (defScope (top 17)) := ⟨rfl, rfl, rfl, by decide +kernel, rfl, by decide +kernel, by decide +kernel⟩
theorem okK_is_sitting (T : Tx w.params K mg) : FnK P w K mg base 3 T.a_is_sitting T.fd_is_sitting ["thing"] m_is_sitting := by
  refine fnK_of (N := N_is_sitting) (k := 2) T.F_is_sitting sc_is_sitting rfl fun cdv A fs s H E hr => ?_
  have hu := un100 hr
  have sc := sc_is_sitting
  exact (ss_cons (s_if (PW.pt (w_or (t_not (t_tru (z_blt T.n_isinstance call_isaP dIsa_ok PyProof.Rows.boot_isinstance (a_cons (z_var 0 (pv 0)) (a_cons (z_ty T.n_tuple PyProof.Rows.boot_tuple) a_nil))))) (w_or1 (tt_cmp (c_ne hu) (z_blt T.n_len call_len dLen_ok PySem.boot_len (a_cons (z_var 0 (pv 0)) a_nil)) z_int)))) (ss_one (s_ret z_bl)) ss_nil)
  (ss_one (s_ret (v_and (z_callK (okK_is_upto T) (hr.mono (by decide)) T.g_is_upto T.F_is_upto.kp T.b_is_upto (passAt (takes_of rfl rfl rfl rfl)) (a_cons (z_ixA hu (z_var 0 (pv 0)) z_int) (a_cons (z_gint T.c_DAYS) a_nil))) (v_and (z_callK (okK_is_upto T) (hr.mono (by decide)) T.g_is_upto T.F_is_upto.kp T.b_is_upto (passAt (takes_of rfl rfl rfl rfl)) (a_cons (z_ixA hu (z_var 0 (pv 0)) z_int) (a_cons (z_gint T.c_DAYS) a_nil))) (v_and (e_cmp (c_le hu) (z_ixA hu (z_var 0 (pv 0)) z_int) (z_ixA hu (z_var 0 (pv 0)) z_int)) (v_and1 (z_callK (okK_is_upto T) (hr.mono (by decide)) T.g_is_upto T.F_is_upto.kp T.b_is_upto (passAt (takes_of rfl rfl rfl rfl)) (a_cons (z_ixA hu (z_var 0 (pv 0)) z_int) (a_cons (z_gint T.c_TOWNS) a_nil))))))))))
abbrev N_is_round : List Str := ["thing", "one", "other"]
theorem sc_is_round : FnScope N_is_round ["thing"] (defScope (top 18)) := ⟨rfl, rfl, rfl, by decide +kernel, rfl, by decide +kernel, by decide +kernel⟩
theorem okK_is_round (T : Tx w.params K mg) : FnK P w K mg base 4 T.a_is_round T.fd_is_round ["thing"] m_is_round := by
  refine fnK_of (N := N_is_round) (k := 3) T.F_is_round sc_is_round rfl fun cdv A fs s H E hr => ?_
  have hu := un100 hr
  have sc := sc_is_round
  exact (ss_cons (s_if (PW.pt (w_or (t_not (t_tru (z_blt T.n_isinstance call_isaP dIsa_ok PyProof.Rows.boot_isinstance (a_cons (z_var 0 (pv 0)) (a_cons (z_ty T.n_tuple PyProof.Rows.boot_tuple) a_nil))))) (w_or1 (t_not (tt_chain (c_le hu) (c_le hu) z_int (z_blt T.n_len call_len dLen_ok PySem.boot_len (a_cons (z_var 0 (pv 0)) a_nil)) (z_gint T.c_MOST_SITTINGS)))))) (ss_one (s_ret z_bl)) ss_nil)
  (ss_cons (s_if (t_not (t_tru (z_blt T.n_all (cr_all rfl) dAll_ok PyProof.Rows.boot_all (a_cons (z_comp (own := [("one", 1)]) (g := (.nm 1)) rfl sc.nd (i_seq (z_var 0 (pv 0))) (blkOk_by (sc := defScope (top 18)) (N := N_is_round) (by first | decide +kernel | rfl)) (fun _ _ _ _ _ => (pg_name (i := 1) sc.nd rfl (by first | exact Or.inl rfl | exact Or.inr rfl))) (fun _ _ _ _ _ => ts_nil) (fun _ _ _ _ _ => (z_callK (okK_is_sitting T) (hr.mono (by decide)) T.g_is_sitting T.F_is_sitting.kp T.b_is_sitting no_out (a_cons (z_var 1 (pv 1)) a_nil))) (by decide)) a_nil)))) (ss_one (s_ret z_bl)) ss_nil)
  (ss_one (s_ret (z_blt T.n_all (cr_all rfl) dAll_ok PyProof.Rows.boot_all (a_cons (z_comp (own := [("one", 1), ("other", 2)]) (g := (.tp [1, 2])) rfl sc.nd (i_zipA T.n_zip (a_cons (z_var 0 (pv 0)) (a_cons (z_sl (z_var 0 (pv 0)) (o_some z_int) o_none) a_nil))) (blkOk_by (sc := defScope (top 18)) (N := N_is_round) (by first | decide +kernel | rfl)) (fun _ _ _ _ _ => (pg_tup rfl (pgs_cons (pg_name (i := 1) sc.nd rfl (by first | exact Or.inl rfl | exact Or.inr rfl)) (pgs_cons (pg_name (i := 2) sc.nd rfl (by first | exact Or.inl rfl | exact Or.inr rfl)) pgs_nil)))) (fun _ _ _ _ _ => ts_nil) (fun _ _ _ _ _ => (e_cmp (c_lt hu) (z_ixA hu (z_var 1 (pv 1)) z_int) (z_ixA hu (z_var 2 (pv 2)) z_int))) (by decide)) a_nil))))))
abbrev N_is_bench : List Str := ["thing"]
theorem sc_is_bench : FnScope N_is_bench ["thing"] (defScope (top 19)) := ⟨rfl, rfl, rfl, by decide +kernel, rfl, by decide +kernel, by decide +kernel⟩
theorem okK_is_bench (T : Tx w.params K mg) : FnK P w K mg base 5 T.a_is_bench T.fd_is_bench ["thing"] m_is_bench := by
  refine fnK_of (N := N_is_bench) (k := 4) T.F_is_bench sc_is_bench rfl fun cdv A fs s H E hr => ?_
  have hu := un100 hr
  have sc := sc_is_bench
  exact (ss_cons (s_if (PW.pt (w_or (t_not (t_tru (z_blt T.n_isinstance call_isaP dIsa_ok PyProof.Rows.boot_isinstance (a_cons (z_var 0 (pv 0)) (a_cons (z_ty T.n_tuple PyProof.Rows.boot_tuple) a_nil))))) (w_or (tt_cmp (c_ne hu) (z_blt T.n_len call_len dLen_ok PySem.boot_len (a_cons (z_var 0 (pv 0)) a_nil)) z_int) (w_or1 (t_not (t_tru (z_callK (okK_is_round T) (hr.mono (by decide)) T.g_is_round T.F_is_round.kp T.b_is_round (passAt (takes_of rfl rfl rfl rfl)) (a_cons (z_ixA hu (z_var 0 (pv 0)) z_int) a_nil)))))))) (ss_one (s_ret z_bl)) ss_nil)
  (ss_one (s_ret (v_and (z_callK (okK_is_within T) (hr.mono (by decide)) T.g_is_within T.F_is_within.kp T.b_is_within (passAt (takes_of rfl rfl rfl rfl)) (a_cons (z_ixA hu (z_var 0 (pv 0)) z_int) (a_cons z_int (a_cons z_int a_nil)))) (v_and (z_callK (okK_is_within T) (hr.mono (by decide)) T.g_is_within T.F_is_within.kp T.b_is_within (passAt (takes_of rfl rfl rfl rfl)) (a_cons (z_ixA hu (z_var 0 (pv 0)) z_int) (a_cons z_int (a_cons z_int a_nil)))) (v_and1 (z_callK (okK_is_within T) (hr.mono (by decide)) T.g_is_within T.F_is_within.kp T.b_is_within (passAt (takes_of rfl rfl rfl rfl)) (a_cons (z_ixA hu (z_var 0 (pv 0)) z_int) (a_cons z_int (a_cons z_int a_nil))))))))))
abbrev N_is_paper : List Str := ["thing", "form", "one", "many"]
theorem sc_is_paper : FnScope N_is_paper ["thing"] (defScope (top 20)) := ⟨rfl, rfl, rfl, by decide +kernel, rfl, by decide +kernel, by decide +kernel⟩
theorem okK_is_paper (T : Tx w.params K mg) : FnK P w K mg base 3 T.a_is_paper T.fd_is_paper ["thing"] m_is_paper := by
  refine fnK_of (N := N_is_paper) (k := 2) T.F_is_paper sc_is_paper rfl fun cdv A fs s H E hr => ?_
  have hu := un100 hr
  have sc := sc_is_paper
  exact (ss_cons (s_if (PW.pt (w_or (t_not (t_tru (z_blt T.n_isinstance call_isaP dIsa_ok PyProof.Rows.boot_isinstance (a_cons (z_var 0 (pv 0)) (a_cons (z_ty T.n_tuple PyProof.Rows.boot_tuple) a_nil))))) (w_or (tt_cmp (c_lt hu) (z_blt T.n_len call_len dLen_ok PySem.boot_len (a_cons (z_var 0 (pv 0)) a_nil)) z_int) (w_or1 (t_not (t_tru (z_blt T.n_isinstance call_isaP dIsa_ok PyProof.Rows.boot_isinstance (a_cons (z_ixA hu (z_var 0 (pv 0)) z_int) (a_cons (z_ty T.n_str PyProof.Rows.boot_str) a_nil))))))))) (ss_one (s_ret z_bl)) ss_nil)
  (ss_cons (s_set (i := 1) sc.nd rfl (by first | exact Or.inl rfl | exact Or.inr rfl) (z_kget T.c_FORMS T.d_FORMS (z_ixA hu (z_var 0 (pv 0)) z_int)))
  (ss_cons (s_if (PW.pt (w_or (tt_cmp c_is (z_var 1 (pv 1)) z_non) (w_or (tt_cmp (c_ne hu) (z_blt T.n_len call_len dLen_ok PySem.boot_len (a_cons (z_var 0 (pv 0)) a_nil)) (z_add z_int (z_blt T.n_len call_len dLen_ok PySem.boot_len (a_cons (z_var 1 (pv 1)) a_nil)))) (w_or1 (t_not (t_tru (z_callK (okK_is_upto T) (hr.mono (by decide)) T.g_is_upto T.F_is_upto.kp T.b_is_upto (passAt (takes_of rfl rfl rfl rfl)) (a_cons (z_ixA hu (z_var 0 (pv 0)) z_int) (a_cons (z_gint T.c_DAYS) a_nil))))))))) (ss_one (s_ret z_bl)) ss_nil)
  (ss_one (s_ret (z_blt T.n_all (cr_all rfl) dAll_ok PyProof.Rows.boot_all (a_cons (z_comp (own := [("one", 2), ("many", 3)]) (g := (.tp [2, 3])) rfl sc.nd (i_zipA T.n_zip (a_cons (z_sl (z_var 0 (pv 0)) (o_some z_int) o_none) (a_cons (z_var 1 (pv 1)) a_nil))) (blkOk_by (sc := defScope (top 20)) (N := N_is_paper) (by first | decide +kernel | rfl)) (fun _ _ _ _ _ => (pg_tup rfl (pgs_cons (pg_name (i := 2) sc.nd rfl (by first | exact Or.inl rfl | exact Or.inr rfl)) (pgs_cons (pg_name (i := 3) sc.nd rfl (by first | exact Or.inl rfl | exact Or.inr rfl)) pgs_nil)))) (fun _ _ _ _ _ => ts_nil) (fun _ _ _ _ _ => (z_callK (okK_is_upto T) (hr.mono (by decide)) T.g_is_upto T.F_is_upto.kp T.b_is_upto no_out (a_cons (z_var 2 (pv 2)) (a_cons (z_var 3 (pv 3)) a_nil)))) (by decide)) a_nil)))))))
abbrev N_is_roll : List Str := ["thing", "one", "other"]
theorem sc_is_roll : FnScope N_is_roll ["thing"] (defScope (top 21)) := ⟨rfl, rfl, rfl, by decide +kernel, rfl, by decide +kernel, by decide +kernel⟩
theorem okK_is_roll (T : Tx w.params K mg) : FnK P w K mg base 4 T.a_is_roll T.fd_is_roll ["thing"] m_is_roll := by
  refine fnK_of (N := N_is_roll) (k := 3) T.F_is_roll sc_is_roll rfl fun cdv A fs s H E hr => ?_
  have hu := un100 hr
  have sc := sc_is_roll
  exact (ss_cons (s_if (PW.pt (w_or (t_not (t_tru (z_blt T.n_isinstance call_isaP dIsa_ok PyProof.Rows.boot_isinstance (a_cons (z_var 0 (pv 0)) (a_cons (z_ty T.n_tuple PyProof.Rows.boot_tuple) a_nil))))) (w_or (tt_cmp (c_gt hu) (z_blt T.n_len call_len dLen_ok PySem.boot_len (a_cons (z_var 0 (pv 0)) a_nil)) (z_gint T.c_MOST_PAPERS)) (w_or1 (t_not (t_tru (z_blt T.n_all (cr_all rfl) dAll_ok PyProof.Rows.boot_all (a_cons (z_comp (own := [("one", 1)]) (g := (.nm 1)) rfl sc.nd (i_seq (z_var 0 (pv 0))) (blkOk_by (sc := defScope (top 21)) (N := N_is_roll) (by first | decide +kernel | rfl)) (fun _ _ _ _ _ => (pg_name (i := 1) sc.nd rfl (by first | exact Or.inl rfl | exact Or.inr rfl))) (fun _ _ _ _ _ => ts_nil) (fun _ _ _ _ _ => (z_callK (okK_is_paper T) (hr.mono (by decide)) T.g_is_paper T.F_is_paper.kp T.b_is_paper no_out (a_cons (z_var 1 (pv 1)) a_nil))) (by decide)) a_nil)))))))) (ss_one (s_ret z_bl)) ss_nil)
  (ss_one (s_ret (z_blt T.n_all (cr_all rfl) dAll_ok PyProof.Rows.boot_all (a_cons (z_comp (own := [("one", 1), ("other", 2)]) (g := (.tp [1, 2])) rfl sc.nd (i_zipA T.n_zip (a_cons (z_var 0 (pv 0)) (a_cons (z_sl (z_var 0 (pv 0)) (o_some z_int) o_none) a_nil))) (blkOk_by (sc := defScope (top 21)) (N := N_is_roll) (by first | decide +kernel | rfl)) (fun _ _ _ _ _ => (pg_tup rfl (pgs_cons (pg_name (i := 1) sc.nd rfl (by first | exact Or.inl rfl | exact Or.inr rfl)) (pgs_cons (pg_name (i := 2) sc.nd rfl (by first | exact Or.inl rfl | exact Or.inr rfl)) pgs_nil)))) (fun _ _ _ _ _ => ts_nil) (fun _ _ _ _ _ => (e_cmp (c_lt hu) (z_var 1 (pv 1)) (z_var 2 (pv 2)))) (by decide)) a_nil)))))
abbrev N_need_bench : List Str := ["thing"]
theorem sc_need_bench : FnScope N_need_bench ["thing"] (defScope (top 22)) := ⟨rfl, rfl, rfl, by decide +kernel, rfl, by decide +kernel, by decide +kernel⟩
theorem okK_need_bench (T : Tx w.params K mg) : FnK P w K mg base 6 T.a_need_bench T.fd_need_bench ["thing"] m_need_bench := by
  refine fnK_of (N := N_need_bench) (k := 5) T.F_need_bench sc_need_bench rfl fun cdv A fs s H E hr => ?_
  have hu := un100 hr
  have sc := sc_need_bench
  exact (ss_one (s_if (t_not (t_tru (z_callK (okK_is_bench T) (hr.mono (by decide)) T.g_is_bench T.F_is_bench.kp T.b_is_bench (passAt (takes_of rfl rfl rfl rfl)) (a_cons (z_var 0 (pv 0)) a_nil)))) (ss_one s_bad) ss_nil))
abbrev N_need_paper : List Str := ["thing"]
theorem sc_need_paper : FnScope N_need_paper ["thing"] (defScope (top 23)) := ⟨rfl, rfl, rfl, by decide +kernel, rfl, by decide +kernel, by decide +kernel⟩
theorem okK_need_paper (T : Tx w.params K mg) : FnK P w K mg base 4 T.a_need_paper T.fd_need_paper ["thing"] m_need_paper := by
  refine fnK_of (N := N_need_paper) (k := 3) T.F_need_paper sc_need_paper rfl fun cdv A fs s H E hr => ?_
  have hu := un100 hr
  have sc := sc_need_paper
  exact (ss_one (s_if (t_not (t_tru (z_callK (okK_is_paper T) (hr.mono (by decide)) T.g_is_paper T.F_is_paper.kp T.b_is_paper (passAt (takes_of rfl rfl rfl rfl)) (a_cons (z_var 0 (pv 0)) a_nil)))) (ss_one s_bad) ss_nil))
abbrev N_need_roll : List Str := ["thing"]
theorem sc_need_roll : FnScope N_need_roll ["thing"] (defScope (top 24)) := ⟨rfl, rfl, rfl, by decide +kernel, rfl, by decide +kernel, by decide +kernel⟩
theorem okK_need_roll (T : Tx w.params K mg) : FnK P w K mg base 5 T.a_need_roll T.fd_need_roll ["thing"] m_need_roll := by
  refine fnK_of (N := N_need_roll) (k := 4) T.F_need_roll sc_need_roll rfl fun cdv A fs s H E hr => ?_
  have hu := un100 hr
  have sc := sc_need_roll
  exact (ss_one (s_if (t_not (t_tru (z_callK (okK_is_roll T) (hr.mono (by decide)) T.g_is_roll T.F_is_roll.kp T.b_is_roll (passAt (takes_of rfl rfl rfl rfl)) (a_cons (z_var 0 (pv 0)) a_nil)))) (ss_one s_bad) ss_nil))
abbrev N_need_both : List Str := ["bench", "roll"]
theorem sc_need_both : FnScope N_need_both ["bench", "roll"] (defScope (top 25)) := ⟨rfl, rfl, rfl, by decide +kernel, rfl, by decide +kernel, by decide +kernel⟩
theorem okK_need_both (T : Tx w.params K mg) : FnK P w K mg base 7 T.a_need_both T.fd_need_both ["bench", "roll"] m_need_both := by
  refine fnK_of (N := N_need_both) (k := 6) T.F_need_both sc_need_both rfl fun cdv A fs s H E hr => ?_
  have hu := un100 hr
  have sc := sc_need_both
  exact (ss_cons (s_expr (z_callK (okK_need_bench T) (hr.mono (by decide)) T.g_need_bench T.F_need_bench.kp T.b_need_bench (passAt (takes_of rfl rfl rfl rfl)) (a_cons (z_var 0 (pv 0)) a_nil)))
  (ss_one (s_expr (z_callK (okK_need_roll T) (hr.mono (by decide)) T.g_need_roll T.F_need_roll.kp T.b_need_roll (passAt (takes_of rfl rfl rfl rfl)) (a_cons (z_var 1 (pv 1)) a_nil)))))
abbrev N_need_in : List Str := ["roll", "paper"]
theorem sc_need_in : FnScope N_need_in ["roll", "paper"] (defScope (top 27)) := ⟨rfl, rfl, rfl, by decide +kernel, rfl, by decide +kernel, by decide +kernel⟩
theorem okK_need_in (T : Tx w.params K mg) : FnK P w K mg base 1 T.a_need_in T.fd_need_in ["roll", "paper"] m_need_in := by
  refine fnK_of (N := N_need_in) (k := 0) T.F_need_in sc_need_in rfl fun cdv A fs s H E hr => ?_
  have hu := un100 hr
  have sc := sc_need_in
  exact (ss_one (s_if (tt_cmp (c_ninA (by exact hu)) (z_var 1 (pv 1)) (z_var 0 (pv 0))) (ss_one s_bad) ss_nil))
abbrev N_without_paper : List Str := ["roll", "paper", "one"]
theorem sc_without_paper : FnScope N_without_paper ["roll", "paper"] (defScope (top 28)) := ⟨rfl, rfl, rfl, by decide +kernel, rfl, by decide +kernel, by decide +kernel⟩
theorem okK_without_paper (T : Tx w.params K mg) : FnK P w K mg base 1 T.a_without_paper T.fd_without_paper ["roll", "paper"] m_without_paper := by
  refine fnK_of (N := N_without_paper) (k := 0) T.F_without_paper sc_without_paper rfl fun cdv A fs s H E hr => ?_
  have hu := un100 hr
  have sc := sc_without_paper
  exact (ss_one (s_ret (z_typ T.n_tuple call_tuple_of dTuple_ok PyProof.Rows.boot_tuple (a_cons (z_comp (own := [("one", 2)]) (g := (.nm 2)) rfl sc.nd (i_seq (z_var 0 (pv 0))) (blkOk_by (sc := defScope (top 28)) (N := N_without_paper) (by first | decide +kernel | rfl)) (fun _ _ _ _ _ => (pg_name (i := 2) sc.nd rfl (by first | exact Or.inl rfl | exact Or.inr rfl))) (fun _ _ _ _ _ => (ts_one (tt_cmp (c_ne hu) (z_var 2 (pv 2)) (z_var 1 (pv 1))))) (fun _ _ _ _ _ => (z_var 2 (pv 2))) (by decide)) a_nil))))
abbrev N_taken_back : List Str := ["roll", "paper"]
theorem sc_taken_back : FnScope N_taken_back ["roll", "paper"] (defScope (top 29)) := ⟨rfl, rfl, rfl, by decide +kernel, rfl, by decide +kernel, by decide +kernel⟩
theorem okK_taken_back (T : Tx w.params K mg) : FnK P w K mg base 6 T.a_taken_back T.fd_taken_back ["roll", "paper"] m_taken_back := by
  refine fnK_of (N := N_taken_back) (k := 5) T.F_taken_back sc_taken_back rfl fun cdv A fs s H E hr => ?_
  have hu := un100 hr
  have sc := sc_taken_back
  exact (ss_cons (s_expr (z_callK (okK_need_roll T) (hr.mono (by decide)) T.g_need_roll T.F_need_roll.kp T.b_need_roll (passAt (takes_of rfl rfl rfl rfl)) (a_cons (z_var 0 (pv 0)) a_nil)))
  (ss_cons (s_expr (z_callK (okK_need_paper T) (hr.mono (by decide)) T.g_need_paper T.F_need_paper.kp T.b_need_paper (passAt (takes_of rfl rfl rfl rfl)) (a_cons (z_var 1 (pv 1)) a_nil)))
  (ss_cons (s_expr (z_callK (okK_need_in T) (hr.mono (by decide)) T.g_need_in T.F_need_in.kp T.b_need_in (passAt (takes_of rfl rfl rfl rfl)) (a_cons (z_var 0 (pv 0)) (a_cons (z_var 1 (pv 1)) a_nil))))
  (ss_one (s_ret (z_callK (okK_without_paper T) (hr.mono (by decide)) T.g_without_paper T.F_without_paper.kp T.b_without_paper (passAt (takes_of rfl rfl rfl rfl)) (a_cons (z_var 0 (pv 0)) (a_cons (z_var 1 (pv 1)) a_nil))))))))
theorem ok_taken_back (T : Tx w.params K mg) : FnG P w K mg base 6 T.a_taken_back T.fd_taken_back ["roll", "paper"] m_taken_back := (okK_taken_back T).toG
abbrev N_sitting_on : List Str := ["bench", "day", "sitting"]
theorem sc_sitting_on : FnScope N_sitting_on ["bench", "day"] (defScope (top 31)) := ⟨rfl, rfl, rfl, by decide +kernel, rfl, by decide +kernel, by decide +kernel⟩
theorem okK_sitting_on (T : Tx w.params K mg) : FnK P w K mg base 1 T.a_sitting_on T.fd_sitting_on ["bench", "day"] m_sitting_on := by
  refine fnK_of (N := N_sitting_on) (k := 0) T.F_sitting_on sc_sitting_on rfl fun cdv A fs s H E hr => ?_
  have hu := un100 hr
  have sc := sc_sitting_on
  exact (ss_cons (s_for (g := (.nm 2)) (passes_of rfl) rfl (i_seq (z_ixA hu (z_var 0 (pv 0)) z_int)) (pg_name (i := 2) sc.nd rfl (by first | exact Or.inl rfl | exact Or.inr rfl)) (ss_one (s_if (tt_chain (c_le hu) (c_le hu) (z_ixA hu (z_var 2 (pv 2)) z_int) (z_var 1 (pv 1)) (z_ixA hu (z_var 2 (pv 2)) z_int)) (ss_one (s_ret (z_var 2 (pv 2)))) ss_nil)))
  (ss_one (s_ret z_non)))
abbrev N_Cause_init : List Str := ["self", "person", "deed", "town"]
theorem sc_Cause_init : FnScope N_Cause_init ["self", "person", "deed", "town"] (defScope (clsDef (top 36) 0)) := ⟨rfl, rfl, rfl, by decide +kernel, rfl, by decide +kernel, by decide +kernel⟩
theorem okK_Cause_init (T : Tx w.params K mg) : FnK P w K mg base 1 T.a_Cause_init T.fd_Cause_init ["self", "person", "deed", "town"] m_Cause_init := by
  refine fnK_of (N := N_Cause_init) (k := 0) T.F_Cause_init sc_Cause_init rfl fun cdv A fs s H E hr => ?_
  have hu := un100 hr
  have sc := sc_Cause_init
  exact (ss_cons (s_fld (T.f_Cause "person" (by decide +kernel)) (z_var 0 (pv 0)) (z_var 1 (pv 1)))
  (ss_cons (s_fld (T.f_Cause "deed" (by decide +kernel)) (z_var 0 (pv 0)) (z_var 2 (pv 2)))
  (ss_cons (s_fld (T.f_Cause "town" (by decide +kernel)) (z_var 0 (pv 0)) (z_var 3 (pv 3)))
  (ss_cons (s_fld (T.f_Cause "word" (by decide +kernel)) (z_var 0 (pv 0)) z_str)
  (ss_cons (s_fld (T.f_Cause "since" (by decide +kernel)) (z_var 0 (pv 0)) z_non)
  (ss_cons (s_fld (T.f_Cause "spent" (by decide +kernel)) (z_var 0 (pv 0)) z_int)
  (ss_cons (s_fld (T.f_Cause "past" (by decide +kernel)) (z_var 0 (pv 0)) (z_lst a_nil))
  (ss_cons (s_fld (T.f_Cause "pledger" (by decide +kernel)) (z_var 0 (pv 0)) z_non)
  (ss_cons (s_fld (T.f_Cause "puts" (by decide +kernel)) (z_var 0 (pv 0)) z_int)
  (ss_cons (s_fld (T.f_Cause "until" (by decide +kernel)) (z_var 0 (pv 0)) (z_neg z_int))
  (ss_one (s_fld (T.f_Cause "by" (by decide +kernel)) (z_var 0 (pv 0)) z_non))))))))))))
abbrev N_Cause_used : List Str := ["self", "most", "day"]
theorem sc_Cause_used : FnScope N_Cause_used ["self", "most", "day"] (defScope (clsDef (top 36) 1)) := ⟨rfl, rfl, rfl, by decide +kernel, rfl, by decide +kernel, by decide +kernel⟩
theorem okK_Cause_used (T : Tx w.params K mg) : FnK P w K mg base 1 T.a_Cause_used T.fd_Cause_used ["self", "most", "day"] m_Cause_used := by
  refine fnK_of (N := N_Cause_used) (k := 0) T.F_Cause_used sc_Cause_used rfl fun cdv A fs s H E hr => ?_
  have hu := un100 hr
  have sc := sc_Cause_used
  exact (ss_cons (s_if (tt_cmp c_is (z_fld (T.f_Cause "since" (by decide +kernel)) (z_var 0 (pv 0))) z_non) (ss_one (s_ret (z_fld (T.f_Cause "spent" (by decide +kernel)) (z_var 0 (pv 0))))) ss_nil)
  (ss_one (s_ret (z_blt T.n_min (call_min2 rfl) dMin2_ok PyProof.Rows.boot_min (a_cons (z_var 1 (pv 1)) (a_cons (z_sub (z_add (z_fld (T.f_Cause "spent" (by decide +kernel)) (z_var 0 (pv 0))) (z_var 2 (pv 2))) (z_fld (T.f_Cause "since" (by decide +kernel)) (z_var 0 (pv 0)))) a_nil))))))
abbrev N_Cause_is_held : List Str := ["self", "most", "day"]
theorem sc_Cause_is_held : FnScope N_Cause_is_held ["self", "most", "day"] (defScope (clsDef (top 36) 2)) := ⟨rfl, rfl, rfl, by decide +kernel, rfl, by decide +kernel, by decide +kernel⟩
theorem okK_Cause_is_held (T : Tx w.params K mg) : FnK P w K mg base 2 T.a_Cause_is_held T.fd_Cause_is_held ["self", "most", "day"] m_Cause_is_held := by
  refine fnK_of (N := N_Cause_is_held) (k := 1) T.F_Cause_is_held sc_Cause_is_held rfl fun cdv A fs s H E hr => ?_
  have hu := un100 hr
  have sc := sc_Cause_is_held
  exact (ss_one (s_ret (v_and (e_cmp c_isn (z_fld (T.f_Cause "since" (by decide +kernel)) (z_var 0 (pv 0))) z_non) (v_and1 (e_cmp (c_lt hu) (z_methO T.at_Cause T.cl_Cause T.me_Cause_used (okK_Cause_used T) (hr.mono (by decide)) T.b_Cause_used (z_var 0 (pv 0)) (a_cons (z_var 1 (pv 1)) (a_cons (z_var 2 (pv 2)) a_nil))) (z_var 1 (pv 1)))))))
abbrev N_Cause_days_to : List Str := ["self", "most", "day", "many"]
theorem sc_Cause_days_to : FnScope N_Cause_days_to ["self", "most", "day"] (defScope (clsDef (top 36) 3)) := ⟨rfl, rfl, rfl, by decide +kernel, rfl, by decide +kernel, by decide +kernel⟩
theorem okK_Cause_days_to (T : Tx w.params K mg) : FnK P w K mg base 2 T.a_Cause_days_to T.fd_Cause_days_to ["self", "most", "day"] m_Cause_days_to := by
  refine fnK_of (N := N_Cause_days_to) (k := 1) T.F_Cause_days_to sc_Cause_days_to rfl fun cdv A fs s H E hr => ?_
  have hu := un100 hr
  have sc := sc_Cause_days_to
  exact (ss_cons (s_if (tt_cmp c_is (z_fld (T.f_Cause "since" (by decide +kernel)) (z_var 0 (pv 0))) z_non) (ss_one (s_ret (z_typ T.n_list call_list_of dList_ok PyProof.Rows.boot_list (a_cons (z_fld (T.f_Cause "past" (by decide +kernel)) (z_var 0 (pv 0))) a_nil)))) ss_nil)
  (ss_cons (s_set (i := 3) sc.nd rfl (by first | exact Or.inl rfl | exact Or.inr rfl) (z_sub (z_methO T.at_Cause T.cl_Cause T.me_Cause_used (okK_Cause_used T) (hr.mono (by decide)) T.b_Cause_used (z_var 0 (pv 0)) (a_cons (z_var 1 (pv 1)) (a_cons (z_add (z_var 2 (pv 2)) z_int) a_nil))) (z_fld (T.f_Cause "spent" (by decide +kernel)) (z_var 0 (pv 0)))))
  (ss_one (s_ret (z_add (z_fld (T.f_Cause "past" (by decide +kernel)) (z_var 0 (pv 0))) (z_lstRg T.n_list T.n_range (z_fld (T.f_Cause "since" (by decide +kernel)) (z_var 0 (pv 0))) (z_add (z_fld (T.f_Cause "since" (by decide +kernel)) (z_var 0 (pv 0))) (z_var 3 (pv 3)))))))))
abbrev N_Cause_let_go : List Str := ["self", "most", "day"]
theorem sc_Cause_let_go : FnScope N_Cause_let_go ["self", "most", "day"] (defScope (clsDef (top 36) 4)) := ⟨rfl, rfl, rfl, by decide +kernel, rfl, by decide +kernel, by decide +kernel⟩
theorem okK_Cause_let_go (T : Tx w.params K mg) : FnK P w K mg base 3 T.a_Cause_let_go T.fd_Cause_let_go ["self", "most", "day"] m_Cause_let_go := by
  refine fnK_of (N := N_Cause_let_go) (k := 2) T.F_Cause_let_go sc_Cause_let_go rfl fun cdv A fs s H E hr => ?_
  have hu := un100 hr
  have sc := sc_Cause_let_go
  exact (ss_cons (s_fld (T.f_Cause "past" (by decide +kernel)) (z_var 0 (pv 0)) (z_methO T.at_Cause T.cl_Cause T.me_Cause_days_to (okK_Cause_days_to T) (hr.mono (by decide)) T.b_Cause_days_to (z_var 0 (pv 0)) (a_cons (z_var 1 (pv 1)) (a_cons (z_sub (z_var 2 (pv 2)) z_int) a_nil))))
  (ss_cons (s_fld (T.f_Cause "spent" (by decide +kernel)) (z_var 0 (pv 0)) (z_methO T.at_Cause T.cl_Cause T.me_Cause_used (okK_Cause_used T) (hr.mono (by decide)) T.b_Cause_used (z_var 0 (pv 0)) (a_cons (z_var 1 (pv 1)) (a_cons (z_var 2 (pv 2)) a_nil))))
  (ss_one (s_fld (T.f_Cause "since" (by decide +kernel)) (z_var 0 (pv 0)) z_non))))
abbrev N_Cause_end : List Str := ["self", "most", "day", "word"]
theorem sc_Cause_end : FnScope N_Cause_end ["self", "most", "day", "word"] (defScope (clsDef (top 36) 5)) := ⟨rfl, rfl, rfl, by decide +kernel, rfl, by decide +kernel, by decide +kernel⟩
theorem okK_Cause_end (T : Tx w.params K mg) : FnK P w K mg base 4 T.a_Cause_end T.fd_Cause_end ["self", "most", "day", "word"] m_Cause_end := by
  refine fnK_of (N := N_Cause_end) (k := 3) T.F_Cause_end sc_Cause_end rfl fun cdv A fs s H E hr => ?_
  have hu := un100 hr
  have sc := sc_Cause_end
  exact (ss_cons (s_expr (z_methO T.at_Cause T.cl_Cause T.me_Cause_let_go (okK_Cause_let_go T) (hr.mono (by decide)) T.b_Cause_let_go (z_var 0 (pv 0)) (a_cons (z_var 1 (pv 1)) (a_cons (z_var 2 (pv 2)) a_nil))))
  (ss_cons (s_fld (T.f_Cause "pledger" (by decide +kernel)) (z_var 0 (pv 0)) z_non)
  (ss_one (s_fld (T.f_Cause "word" (by decide +kernel)) (z_var 0 (pv 0)) (z_var 3 (pv 3))))))
abbrev N_Reading_init : List Str := ["self", "bench", "struck", "done"]
theorem sc_Reading_init : FnScope N_Reading_init ["self", "bench", "struck", "done"] (defScope (clsDef (top 37) 0)) := ⟨rfl, rfl, rfl, by decide +kernel, rfl, by decide +kernel, by decide +kernel⟩
theorem okK_Reading_init (T : Tx w.params K mg) : FnK P w K mg base 1 T.a_Reading_init T.fd_Reading_init ["self", "bench", "struck", "done"] m_Reading_init := by
  refine fnK_of (N := N_Reading_init) (k := 0) T.F_Reading_init sc_Reading_init rfl fun cdv A fs s H E hr => ?_
  have hu := un100 hr
  have sc := sc_Reading_init
  exact (ss_cons (s_fld (T.f_Reading "bench" (by decide +kernel)) (z_var 0 (pv 0)) (z_var 1 (pv 1)))
  (ss_cons (s_fld (T.f_Reading "struck" (by decide +kernel)) (z_var 0 (pv 0)) (z_var 2 (pv 2)))
  (ss_cons (s_fld (T.f_Reading "done" (by decide +kernel)) (z_var 0 (pv 0)) (z_var 3 (pv 3)))
  (ss_cons (s_fld (T.f_Reading "causes" (by decide +kernel)) (z_var 0 (pv 0)) z_dictN)
  (ss_cons (s_fld (T.f_Reading "pardons" (by decide +kernel)) (z_var 0 (pv 0)) (z_lstN a_nil))
  (ss_cons (s_fld (T.f_Reading "words" (by decide +kernel)) (z_var 0 (pv 0)) (z_lstN a_nil))
  (ss_cons (s_fld (T.f_Reading "lost" (by decide +kernel)) (z_var 0 (pv 0)) (z_lstN a_nil))
  (ss_one (s_fld (T.f_Reading "strike" (by decide +kernel)) (z_var 0 (pv 0)) z_non)))))))))
abbrev N_Reading_is_away : List Str := ["self", "cause", "day", "sitting"]
theorem sc_Reading_is_away : FnScope N_Reading_is_away ["self", "cause", "day"] (defScope (clsDef (top 37) 1)) := ⟨rfl, rfl, rfl, by decide +kernel, rfl, by decide +kernel, by decide +kernel⟩
theorem okK_Reading_is_away (T : Tx w.params K mg) : FnK P w K mg base 2 T.a_Reading_is_away T.fd_Reading_is_away ["self", "cause", "day"] m_Reading_is_away := by
  refine fnK_of (N := N_Reading_is_away) (k := 1) T.F_Reading_is_away sc_Reading_is_away rfl fun cdv A fs s H E hr => ?_
  have hu := un100 hr
  have sc := sc_Reading_is_away
  exact (ss_cons (s_set (i := 3) sc.nd rfl (by first | exact Or.inl rfl | exact Or.inr rfl) (z_callK (okK_sitting_on T) (hr.mono (by decide)) T.g_sitting_on T.F_sitting_on.kp T.b_sitting_on (passAt (takes_of rfl rfl rfl rfl)) (a_cons (z_fld (T.f_Reading "bench" (by decide +kernel)) (z_var 0 (pv 0))) (a_cons (z_var 2 (pv 2)) a_nil))))
  (ss_one (s_ret (v_or (e_cmp c_is (z_var 3 (pv 3)) z_non) (v_and1 (e_cmp (c_ne hu) (z_ixA hu (z_var 3 (pv 3)) z_int) (z_fld (T.f_Cause "town" (by decide +kernel)) (z_var 1 (pv 1)))))))))
abbrev N_Reading_other_judged : List Str := ["self", "number", "person", "deed", "one", "cause"]
theorem sc_Reading_other_judged : FnScope N_Reading_other_judged ["self", "number", "person", "deed"] (defScope (clsDef (top 37) 2)) := ⟨rfl, rfl, rfl, by decide +kernel, rfl, by decide +kernel, by decide +kernel⟩
theorem okK_Reading_other_judged (T : Tx w.params K mg) : FnK P w K mg base 1 T.a_Reading_other_judged T.fd_Reading_other_judged ["self", "number", "person", "deed"] m_Reading_other_judged := by
  refine fnK_of (N := N_Reading_other_judged) (k := 0) T.F_Reading_other_judged sc_Reading_other_judged rfl fun cdv A fs s H E hr => ?_
  have hu := un100 hr
  have sc := sc_Reading_other_judged
  exact (ss_cons (s_lock (s_for (g := (.tp [4, 5])) (passes_of rfl) rfl (i_items (z_fld (T.f_Reading "causes" (by decide +kernel)) (z_var 0 (pv 0)))) (pg_tup rfl (pgs_cons (pg_name (i := 4) sc.nd rfl (by first | exact Or.inl rfl | exact Or.inr rfl)) (pgs_cons (pg_name (i := 5) sc.nd rfl (by first | exact Or.inl rfl | exact Or.inr rfl)) pgs_nil))) (ss_one (s_if (PW.pt (w_and (tt_cmp (c_ne hu) (z_var 4 (pv 4)) (z_var 1 (pv 1))) (w_and (tt_cmp (c_eq hu) (z_tup (a_cons (z_fld (T.f_Cause "person" (by decide +kernel)) (z_var 5 (pv 5))) (a_cons (z_fld (T.f_Cause "deed" (by decide +kernel)) (z_var 5 (pv 5))) a_nil))) (z_tup (a_cons (z_var 2 (pv 2)) (a_cons (z_var 3 (pv 3)) a_nil)))) (w_and1 (tt_cmp (c_inA (by exact hu)) (z_fld (T.f_Cause "word" (by decide +kernel)) (z_var 5 (pv 5))) (z_kt T.c_JUDGED T.v_JUDGED)))))) (ss_one (s_ret z_bl)) ss_nil))))
  (ss_one (s_ret z_bl)))
abbrev N_Reading_judge : List Str := ["self", "paper", "cause"]
theorem sc_Reading_judge : FnScope N_Reading_judge ["self", "paper", "cause"] (defScope (clsDef (top 37) 14)) := ⟨rfl, rfl, rfl, by decide +kernel, rfl, by decide +kernel, by decide +kernel⟩
theorem okK_Reading_judge (T : Tx w.params K mg) : FnK P w K mg base 5 T.a_Reading_judge T.fd_Reading_judge ["self", "paper", "cause"] m_Reading_judge := by
  refine fnK_of (N := N_Reading_judge) (k := 4) T.F_Reading_judge sc_Reading_judge rfl fun cdv A fs s H E hr => ?_
  have hu := un100 hr
  have sc := sc_Reading_judge
  exact (ss_cons (s_if (t_tru (z_methO T.at_Reading T.cl_Reading T.me_Reading_other_judged (okK_Reading_other_judged T) (hr.mono (by decide)) T.b_Reading_other_judged (z_var 0 (pv 0)) (a_cons (z_ixA hu (z_var 1 (pv 1)) z_int) (a_cons (z_fld (T.f_Cause "person" (by decide +kernel)) (z_var 2 (pv 2))) (a_cons (z_fld (T.f_Cause "deed" (by decide +kernel)) (z_var 2 (pv 2))) a_nil))))) (ss_one (s_ret z_str)) ss_nil)
  (ss_cons (s_expr (z_methO T.at_Cause T.cl_Cause T.me_Cause_end (okK_Cause_end T) (hr.mono (by decide)) T.b_Cause_end (z_var 2 (pv 2)) (a_cons (z_ixA hu (z_fld (T.f_Reading "bench" (by decide +kernel)) (z_var 0 (pv 0))) z_int) (a_cons (z_ixA hu (z_var 1 (pv 1)) z_int) (a_cons (z_ixA hu (z_lst (a_cons z_str (a_cons z_str a_nil))) (z_ixA hu (z_var 1 (pv 1)) z_int)) a_nil)))))
  (ss_cons (s_fld (T.f_Cause "by" (by decide +kernel)) (z_var 2 (pv 2)) (z_var 1 (pv 1)))
  (ss_one (s_ret (z_gstr T.c_TAKES))))))
abbrev N_Reading_bill : List Str := ["self", "day", "cause", "good"]
theorem sc_Reading_bill : FnScope N_Reading_bill ["self", "day", "cause", "good"] (defScope (clsDef (top 37) 11)) := ⟨rfl, rfl, rfl, by decide +kernel, rfl, by decide +kernel, by decide +kernel⟩
theorem okK_Reading_bill (T : Tx w.params K mg) : FnK P w K mg base 5 T.a_Reading_bill T.fd_Reading_bill ["self", "day", "cause", "good"] m_Reading_bill := by
  refine fnK_of (N := N_Reading_bill) (k := 4) T.F_Reading_bill sc_Reading_bill rfl fun cdv A fs s H E hr => ?_
  have hu := un100 hr
  have sc := sc_Reading_bill
  exact (ss_cons (s_if (tt_cmp (c_eq hu) (z_var 3 (pv 3)) z_int) (ss_one (s_fld (T.f_Cause "word" (by decide +kernel)) (z_var 2 (pv 2)) z_str)) (ss_one (s_expr (z_methO T.at_Cause T.cl_Cause T.me_Cause_end (okK_Cause_end T) (hr.mono (by decide)) T.b_Cause_end (z_var 2 (pv 2)) (a_cons (z_ixA hu (z_fld (T.f_Reading "bench" (by decide +kernel)) (z_var 0 (pv 0))) z_int) (a_cons (z_var 1 (pv 1)) (a_cons z_str a_nil)))))))
  (ss_one (s_ret (z_gstr T.c_TAKES))))
abbrev N_Reading_miss : List Str := ["self", "day", "cause", "number"]
theorem sc_Reading_miss : FnScope N_Reading_miss ["self", "day", "cause", "number"] (defScope (clsDef (top 37) 12)) := ⟨rfl, rfl, rfl, by decide +kernel, rfl, by decide +kernel, by decide +kernel⟩
theorem okK_Reading_miss (T : Tx w.params K mg) : FnK P w K mg base 2 T.a_Reading_miss T.fd_Reading_miss ["self", "day", "cause", "number"] m_Reading_miss := by
  refine fnK_of (N := N_Reading_miss) (k := 1) T.F_Reading_miss sc_Reading_miss rfl fun cdv A fs s H E hr => ?_
  have hu := un100 hr
  have sc := sc_Reading_miss
  exact (ss_cons (s_if (tt_cmp c_is (z_fld (T.f_Cause "pledger" (by decide +kernel)) (z_var 2 (pv 2))) z_non) (ss_one (s_ret z_str)) ss_nil)
  (ss_cons (s_expr (z_app (z_fld (T.f_Reading "lost" (by decide +kernel)) (z_var 0 (pv 0))) (a_cons (z_tup (a_cons (z_var 1 (pv 1)) (a_cons (z_var 3 (pv 3)) (a_cons (z_fld (T.f_Cause "pledger" (by decide +kernel)) (z_var 2 (pv 2))) a_nil)))) a_nil)))
  (ss_cons (s_fld (T.f_Cause "pledger" (by decide +kernel)) (z_var 2 (pv 2)) z_non)
  (ss_cons (s_if (tt_cmp (c_lt hu) (z_methO T.at_Cause T.cl_Cause T.me_Cause_used (okK_Cause_used T) (hr.mono (by decide)) T.b_Cause_used (z_var 2 (pv 2)) (a_cons (z_ixA hu (z_fld (T.f_Reading "bench" (by decide +kernel)) (z_var 0 (pv 0))) z_int) (a_cons (z_var 1 (pv 1)) a_nil))) (z_ixA hu (z_fld (T.f_Reading "bench" (by decide +kernel)) (z_var 0 (pv 0))) z_int)) (ss_one (s_fld (T.f_Cause "since" (by decide +kernel)) (z_var 2 (pv 2)) (z_var 1 (pv 1)))) ss_nil)
  (ss_one (s_ret (z_gstr T.c_TAKES)))))))
abbrev N_Reading_put_over : List Str := ["self", "day", "cause"]
theorem sc_Reading_put_over : FnScope N_Reading_put_over ["self", "day", "cause"] (defScope (clsDef (top 37) 13)) := ⟨rfl, rfl, rfl, by decide +kernel, rfl, by decide +kernel, by decide +kernel⟩
theorem okK_Reading_put_over (T : Tx w.params K mg) : FnK P w K mg base 2 T.a_Reading_put_over T.fd_Reading_put_over ["self", "day", "cause"] m_Reading_put_over := by
  refine fnK_of (N := N_Reading_put_over) (k := 1) T.F_Reading_put_over sc_Reading_put_over rfl fun cdv A fs s H E hr => ?_
  have hu := un100 hr
  have sc := sc_Reading_put_over
  exact (ss_cons (s_if (tt_cmp (c_eq hu) (z_fld (T.f_Cause "puts" (by decide +kernel)) (z_var 2 (pv 2))) (z_ixA hu (z_fld (T.f_Reading "bench" (by decide +kernel)) (z_var 0 (pv 0))) z_int)) (ss_one (s_ret z_str)) ss_nil)
  (ss_cons (s_fld (T.f_Cause "puts" (by decide +kernel)) (z_var 2 (pv 2)) (z_add (z_fld (T.f_Cause "puts" (by decide +kernel)) (z_var 2 (pv 2))) z_int))
  (ss_cons (s_fld (T.f_Cause "until" (by decide +kernel)) (z_var 2 (pv 2)) (z_ixA hu (z_callK (okK_sitting_on T) (hr.mono (by decide)) T.g_sitting_on T.F_sitting_on.kp T.b_sitting_on (passAt (takes_of rfl rfl rfl rfl)) (a_cons (z_fld (T.f_Reading "bench" (by decide +kernel)) (z_var 0 (pv 0))) (a_cons (z_var 1 (pv 1)) a_nil))) z_int))
  (ss_one (s_ret (z_gstr T.c_TAKES))))))
abbrev N_Reading_by_bench : List Str := ["self", "paper", "cause", "wanted", "day", "word"]
theorem sc_Reading_by_bench : FnScope N_Reading_by_bench ["self", "paper", "cause"] (defScope (clsDef (top 37) 10)) := ⟨rfl, rfl, rfl, by decide +kernel, rfl, by decide +kernel, by decide +kernel⟩
theorem okK_Reading_by_bench (T : Tx w.params K mg) : FnK P w K mg base 6 T.a_Reading_by_bench T.fd_Reading_by_bench ["self", "paper", "cause"] m_Reading_by_bench := by
  refine fnK_of (N := N_Reading_by_bench) (k := 5) T.F_Reading_by_bench sc_Reading_by_bench rfl fun cdv A fs s H E hr => ?_
  have hu := un100 hr
  have sc := sc_Reading_by_bench
  exact (ss_cons (s_tup (is := [4, 5]) (z_sl (z_var 1 (pv 1)) o_none (o_some z_int)) (pg_tup rfl (pgs_cons (pg_name (i := 4) sc.nd rfl (by first | exact Or.inl rfl | exact Or.inr rfl)) (pgs_cons (pg_name (i := 5) sc.nd rfl (by first | exact Or.inl rfl | exact Or.inr rfl)) pgs_nil))))
  (ss_cons (s_set (i := 3) sc.nd rfl (by first | exact Or.inl rfl | exact Or.inr rfl) (z_m1 PySem.F.plainAttrs_dict PySem.F.slot_dict_get PySem.F.type_dict_get (mt_get2 hu) dGet2_ok (z_disp (ps := [((mC (.str "bill")), (mTup (aCons (mC (.str "charged")) aNil))), ((mC (.str "miss")), (mC (.ktup [.str "charged", .str "ready"])))]) (pps1 z_str (z_tup (a_cons z_str a_nil)) (pps1 z_str (z_kt T.c_OPEN T.v_OPEN) pps0))) (a_cons (z_var 5 (pv 5)) (a_cons (z_tup (a_cons z_str a_nil)) a_nil))))
  (ss_cons (s_if (tt_cmp (c_ninA (by exact hu)) (z_fld (T.f_Cause "word" (by decide +kernel)) (z_var 2 (pv 2))) (z_var 3 (pv 3))) (ss_one (s_ret z_str)) ss_nil)
  (ss_cons (s_if (t_tru (z_methO T.at_Reading T.cl_Reading T.me_Reading_is_away (okK_Reading_is_away T) (hr.mono (by decide)) T.b_Reading_is_away (z_var 0 (pv 0)) (a_cons (z_var 2 (pv 2)) (a_cons (z_var 4 (pv 4)) a_nil)))) (ss_one (s_ret z_str)) ss_nil)
  (ss_cons (s_if (tt_cmp (c_eq hu) (z_var 5 (pv 5)) z_str) (ss_one (s_ret (z_methO T.at_Reading T.cl_Reading T.me_Reading_bill (okK_Reading_bill T) (hr.mono (by decide)) T.b_Reading_bill (z_var 0 (pv 0)) (a_cons (z_var 4 (pv 4)) (a_cons (z_var 2 (pv 2)) (a_cons (z_ixA hu (z_var 1 (pv 1)) z_int) a_nil)))))) ss_nil)
  (ss_cons (s_if (tt_cmp (c_eq hu) (z_var 5 (pv 5)) z_str) (ss_one (s_ret (z_methO T.at_Reading T.cl_Reading T.me_Reading_miss (okK_Reading_miss T) (hr.mono (by decide)) T.b_Reading_miss (z_var 0 (pv 0)) (a_cons (z_var 4 (pv 4)) (a_cons (z_var 2 (pv 2)) (a_cons (z_ixA hu (z_var 1 (pv 1)) z_int) a_nil)))))) ss_nil)
  (ss_cons (s_if (tt_cmp (c_ge hu) (z_fld (T.f_Cause "until" (by decide +kernel)) (z_var 2 (pv 2))) (z_var 4 (pv 4))) (ss_one (s_ret z_str)) ss_nil)
  (ss_cons (s_if (tt_cmp (c_eq hu) (z_var 5 (pv 5)) z_str) (ss_one (s_ret (z_methO T.at_Reading T.cl_Reading T.me_Reading_put_over (okK_Reading_put_over T) (hr.mono (by decide)) T.b_Reading_put_over (z_var 0 (pv 0)) (a_cons (z_var 4 (pv 4)) (a_cons (z_var 2 (pv 2)) a_nil))))) ss_nil)
  (ss_one (s_ret (z_methO T.at_Reading T.cl_Reading T.me_Reading_judge (okK_Reading_judge T) (hr.mono (by decide)) T.b_Reading_judge (z_var 0 (pv 0)) (a_cons (z_var 1 (pv 1)) (a_cons (z_var 2 (pv 2)) a_nil)))))))))))))
abbrev N_Reading_charge : List Str := ["self", "paper", "day", "word", "number", "person", "deed", "town"]
theorem sc_Reading_charge : FnScope N_Reading_charge ["self", "paper"] (defScope (clsDef (top 37) 4)) := ⟨rfl, rfl, rfl, by decide +kernel, rfl, by decide +kernel, by decide +kernel⟩
theorem okK_Reading_charge (T : Tx w.params K mg) : FnK P w K mg base 3 T.a_Reading_charge T.fd_Reading_charge ["self", "paper"] m_Reading_charge := by
  refine fnK_of (N := N_Reading_charge) (k := 2) T.F_Reading_charge sc_Reading_charge rfl fun cdv A fs s H E hr => ?_
  have hu := un100 hr
  have sc := sc_Reading_charge
  exact (ss_cons (s_tup (is := [2, 3, 4, 5, 6, 7]) (z_var 1 (pv 1)) (pg_tup rfl (pgs_cons (pg_name (i := 2) sc.nd rfl (by first | exact Or.inl rfl | exact Or.inr rfl)) (pgs_cons (pg_name (i := 3) sc.nd rfl (by first | exact Or.inl rfl | exact Or.inr rfl)) (pgs_cons (pg_name (i := 4) sc.nd rfl (by first | exact Or.inl rfl | exact Or.inr rfl)) (pgs_cons (pg_name (i := 5) sc.nd rfl (by first | exact Or.inl rfl | exact Or.inr rfl)) (pgs_cons (pg_name (i := 6) sc.nd rfl (by first | exact Or.inl rfl | exact Or.inr rfl)) (pgs_cons (pg_name (i := 7) sc.nd rfl (by first | exact Or.inl rfl | exact Or.inr rfl)) pgs_nil))))))))
  (ss_cons (s_if (tt_cmp (c_inA (by exact hu)) (z_var 4 (pv 4)) (z_fld (T.f_Reading "causes" (by decide +kernel)) (z_var 0 (pv 0)))) (ss_one (s_ret z_str)) ss_nil)
  (ss_cons (s_if (t_tru (z_methO T.at_Reading T.cl_Reading T.me_Reading_other_judged (okK_Reading_other_judged T) (hr.mono (by decide)) T.b_Reading_other_judged (z_var 0 (pv 0)) (a_cons (z_var 4 (pv 4)) (a_cons (z_var 5 (pv 5)) (a_cons (z_var 6 (pv 6)) a_nil))))) (ss_one (s_ret z_str)) ss_nil)
  (ss_cons (s_if (tt_cmp (c_inA (by exact hu)) (z_tup (a_cons (z_var 5 (pv 5)) (a_cons (z_var 6 (pv 6)) a_nil))) (z_fld (T.f_Reading "pardons" (by decide +kernel)) (z_var 0 (pv 0)))) (ss_one (s_ret z_str)) ss_nil)
  (ss_cons (s_subA hu (z_fld (T.f_Reading "causes" (by decide +kernel)) (z_var 0 (pv 0))) (z_var 4 (pv 4)) (z_make T.at_Cause T.mk_Cause (okK_Cause_init T) (hr.mono (by decide)) T.gm_Cause T.b_Cause_init (a_cons (z_var 5 (pv 5)) (a_cons (z_var 6 (pv 6)) (a_cons (z_var 7 (pv 7)) a_nil)))))
  (ss_one (s_ret (z_gstr T.c_TAKES))))))))
abbrev N_Reading_pardon : List Str := ["self", "day", "both", "cause"]
theorem sc_Reading_pardon : FnScope N_Reading_pardon ["self", "day", "both"] (defScope (clsDef (top 37) 5)) := ⟨rfl, rfl, rfl, by decide +kernel, rfl, by decide +kernel, by decide +kernel⟩
theorem okK_Reading_pardon (T : Tx w.params K mg) : FnK P w K mg base 5 T.a_Reading_pardon T.fd_Reading_pardon ["self", "day", "both"] m_Reading_pardon := by
  refine fnK_of (N := N_Reading_pardon) (k := 4) T.F_Reading_pardon sc_Reading_pardon rfl fun cdv A fs s H E hr => ?_
  have hu := un100 hr
  have sc := sc_Reading_pardon
  exact (ss_cons (s_if (tt_cmp (c_inA (by exact hu)) (z_var 2 (pv 2)) (z_fld (T.f_Reading "pardons" (by decide +kernel)) (z_var 0 (pv 0)))) (ss_one (s_ret z_str)) ss_nil)
  (ss_cons (s_expr (z_app (z_fld (T.f_Reading "pardons" (by decide +kernel)) (z_var 0 (pv 0))) (a_cons (z_var 2 (pv 2)) a_nil)))
  (ss_cons (s_lock (s_for (g := (.nm 3)) (passes_of rfl) rfl (i_vals (z_fld (T.f_Reading "causes" (by decide +kernel)) (z_var 0 (pv 0)))) (pg_name (i := 3) sc.nd rfl (by first | exact Or.inl rfl | exact Or.inr rfl)) (ss_one (s_if (PW.pt (w_and (tt_cmp (c_eq hu) (z_tup (a_cons (z_fld (T.f_Cause "person" (by decide +kernel)) (z_var 3 (pv 3))) (a_cons (z_fld (T.f_Cause "deed" (by decide +kernel)) (z_var 3 (pv 3))) a_nil))) (z_var 2 (pv 2))) (w_and1 (tt_cmp (c_inA (by exact hu)) (z_fld (T.f_Cause "word" (by decide +kernel)) (z_var 3 (pv 3))) (z_kt T.c_OPEN T.v_OPEN))))) (ss_one (s_expr (z_methO T.at_Cause T.cl_Cause T.me_Cause_end (okK_Cause_end T) (hr.mono (by decide)) T.b_Cause_end (z_var 3 (pv 3)) (a_cons (z_ixA hu (z_fld (T.f_Reading "bench" (by decide +kernel)) (z_var 0 (pv 0))) z_int) (a_cons (z_var 1 (pv 1)) (a_cons z_str a_nil)))))) ss_nil))))
  (ss_one (s_ret (z_gstr T.c_TAKES))))))
abbrev N_Reading_aside : List Str := ["self", "paper", "cause"]
theorem sc_Reading_aside : FnScope N_Reading_aside ["self", "paper", "cause"] (defScope (clsDef (top 37) 6)) := ⟨rfl, rfl, rfl, by decide +kernel, rfl, by decide +kernel, by decide +kernel⟩
theorem okK_Reading_aside (T : Tx w.params K mg) : FnK P w K mg base 1 T.a_Reading_aside T.fd_Reading_aside ["self", "paper", "cause"] m_Reading_aside := by
  refine fnK_of (N := N_Reading_aside) (k := 0) T.F_Reading_aside sc_Reading_aside rfl fun cdv A fs s H E hr => ?_
  have hu := un100 hr
  have sc := sc_Reading_aside
  exact (ss_cons (s_if (tt_cmp (c_inA (by exact hu)) (z_var 1 (pv 1)) (z_fld (T.f_Reading "done" (by decide +kernel)) (z_var 0 (pv 0)))) (ss_one (s_ret (z_gstr T.c_TAKES))) ss_nil)
  (ss_cons (s_if (tt_cmp (c_ninA (by exact hu)) (z_fld (T.f_Cause "word" (by decide +kernel)) (z_var 2 (pv 2))) (z_kt T.c_JUDGED T.v_JUDGED)) (ss_one (s_ret z_str)) ss_nil)
  (ss_cons (s_fld (T.f_Reading "strike" (by decide +kernel)) (z_var 0 (pv 0)) (z_tup (a_cons (z_var 1 (pv 1)) (a_cons (z_fld (T.f_Cause "by" (by decide +kernel)) (z_var 2 (pv 2))) a_nil))))
  (ss_one (s_ret (z_gstr T.c_TAKES))))))
abbrev N_Reading_hold : List Str := ["self", "day", "cause", "most"]
theorem sc_Reading_hold : FnScope N_Reading_hold ["self", "day", "cause"] (defScope (clsDef (top 37) 8)) := ⟨rfl, rfl, rfl, by decide +kernel, rfl, by decide +kernel, by decide +kernel⟩
theorem okK_Reading_hold (T : Tx w.params K mg) : FnK P w K mg base 4 T.a_Reading_hold T.fd_Reading_hold ["self", "day", "cause"] m_Reading_hold := by
  refine fnK_of (N := N_Reading_hold) (k := 3) T.F_Reading_hold sc_Reading_hold rfl fun cdv A fs s H E hr => ?_
  have hu := un100 hr
  have sc := sc_Reading_hold
  exact (ss_cons (s_set (i := 3) sc.nd rfl (by first | exact Or.inl rfl | exact Or.inr rfl) (z_ixA hu (z_fld (T.f_Reading "bench" (by decide +kernel)) (z_var 0 (pv 0))) z_int))
  (ss_cons (s_if (tt_cmp c_isn (z_fld (T.f_Cause "pledger" (by decide +kernel)) (z_var 2 (pv 2))) z_non) (ss_one (s_ret z_str)) ss_nil)
  (ss_cons (s_if (t_tru (z_methO T.at_Cause T.cl_Cause T.me_Cause_is_held (okK_Cause_is_held T) (hr.mono (by decide)) T.b_Cause_is_held (z_var 2 (pv 2)) (a_cons (z_var 3 (pv 3)) (a_cons (z_var 1 (pv 1)) a_nil)))) (ss_one (s_ret z_str)) ss_nil)
  (ss_cons (s_if (tt_cmp (c_eq hu) (z_methO T.at_Cause T.cl_Cause T.me_Cause_used (okK_Cause_used T) (hr.mono (by decide)) T.b_Cause_used (z_var 2 (pv 2)) (a_cons (z_var 3 (pv 3)) (a_cons (z_var 1 (pv 1)) a_nil))) (z_var 3 (pv 3))) (ss_one (s_ret z_str)) ss_nil)
  (ss_cons (s_expr (z_methO T.at_Cause T.cl_Cause T.me_Cause_let_go (okK_Cause_let_go T) (hr.mono (by decide)) T.b_Cause_let_go (z_var 2 (pv 2)) (a_cons (z_var 3 (pv 3)) (a_cons (z_var 1 (pv 1)) a_nil))))
  (ss_cons (s_fld (T.f_Cause "since" (by decide +kernel)) (z_var 2 (pv 2)) (z_var 1 (pv 1)))
  (ss_one (s_ret (z_gstr T.c_TAKES)))))))))
abbrev N_Reading_pledge : List Str := ["self", "day", "cause", "person", "one"]
theorem sc_Reading_pledge : FnScope N_Reading_pledge ["self", "day", "cause", "person"] (defScope (clsDef (top 37) 9)) := ⟨rfl, rfl, rfl, by decide +kernel, rfl, by decide +kernel, by decide +kernel⟩
theorem okK_Reading_pledge (T : Tx w.params K mg) : FnK P w K mg base 4 T.a_Reading_pledge T.fd_Reading_pledge ["self", "day", "cause", "person"] m_Reading_pledge := by
  refine fnK_of (N := N_Reading_pledge) (k := 3) T.F_Reading_pledge sc_Reading_pledge rfl fun cdv A fs s H E hr => ?_
  have hu := un100 hr
  have sc := sc_Reading_pledge
  exact (ss_cons (s_if (t_not (t_tru (z_methO T.at_Cause T.cl_Cause T.me_Cause_is_held (okK_Cause_is_held T) (hr.mono (by decide)) T.b_Cause_is_held (z_var 2 (pv 2)) (a_cons (z_ixA hu (z_fld (T.f_Reading "bench" (by decide +kernel)) (z_var 0 (pv 0))) z_int) (a_cons (z_var 1 (pv 1)) a_nil))))) (ss_one (s_ret z_str)) ss_nil)
  (ss_cons (s_if (tt_cmp (c_eq hu) (z_var 3 (pv 3)) (z_fld (T.f_Cause "person" (by decide +kernel)) (z_var 2 (pv 2)))) (ss_one (s_ret z_str)) ss_nil)
  (ss_cons (s_if (tt_cmp (c_eq hu) (z_blt T.n_len call_len dLen_ok PySem.boot_len (a_cons (z_lock (z_comp (own := [("one", 4)]) (g := (.nm 4)) rfl sc.nd (i_vals (z_fld (T.f_Reading "causes" (by decide +kernel)) (z_var 0 (pv 0)))) (blkOk_by (sc := defScope (clsDef (top 37) 9)) (N := N_Reading_pledge) (by first | decide +kernel | rfl)) (fun _ _ _ _ _ => (pg_name (i := 4) sc.nd rfl (by first | exact Or.inl rfl | exact Or.inr rfl))) (fun _ _ _ _ _ => (ts_one (tt_cmp (c_eq hu) (z_fld (T.f_Cause "pledger" (by decide +kernel)) (z_var 4 (pv 4))) (z_var 3 (pv 3))))) (fun _ _ _ _ _ => (z_var 4 (pv 4))) (by decide))) a_nil)) (z_ixA hu (z_fld (T.f_Reading "bench" (by decide +kernel)) (z_var 0 (pv 0))) z_int)) (ss_one (s_ret z_str)) ss_nil)
  (ss_cons (s_expr (z_methO T.at_Cause T.cl_Cause T.me_Cause_let_go (okK_Cause_let_go T) (hr.mono (by decide)) T.b_Cause_let_go (z_var 2 (pv 2)) (a_cons (z_ixA hu (z_fld (T.f_Reading "bench" (by decide +kernel)) (z_var 0 (pv 0))) z_int) (a_cons (z_var 1 (pv 1)) a_nil))))
  (ss_cons (s_fld (T.f_Cause "pledger" (by decide +kernel)) (z_var 2 (pv 2)) (z_var 3 (pv 3)))
  (ss_one (s_ret (z_gstr T.c_TAKES))))))))
abbrev N_Reading_in_open : List Str := ["self", "paper", "cause"]
theorem sc_Reading_in_open : FnScope N_Reading_in_open ["self", "paper", "cause"] (defScope (clsDef (top 37) 7)) := ⟨rfl, rfl, rfl, by decide +kernel, rfl, by decide +kernel, by decide +kernel⟩
theorem okK_Reading_in_open (T : Tx w.params K mg) : FnK P w K mg base 5 T.a_Reading_in_open T.fd_Reading_in_open ["self", "paper", "cause"] m_Reading_in_open := by
  refine fnK_of (N := N_Reading_in_open) (k := 4) T.F_Reading_in_open sc_Reading_in_open rfl fun cdv A fs s H E hr => ?_
  have hu := un100 hr
  have sc := sc_Reading_in_open
  exact (ss_cons (s_if (tt_cmp (c_ninA (by exact hu)) (z_fld (T.f_Cause "word" (by decide +kernel)) (z_var 2 (pv 2))) (z_kt T.c_OPEN T.v_OPEN)) (ss_one (s_ret z_str)) ss_nil)
  (ss_cons (s_if (tt_cmp (c_eq hu) (z_ixA hu (z_var 1 (pv 1)) z_int) z_str) (ss_one (s_ret (z_methO T.at_Reading T.cl_Reading T.me_Reading_hold (okK_Reading_hold T) (hr.mono (by decide)) T.b_Reading_hold (z_var 0 (pv 0)) (a_cons (z_ixA hu (z_var 1 (pv 1)) z_int) (a_cons (z_var 2 (pv 2)) a_nil))))) ss_nil)
  (ss_cons (s_if (tt_cmp (c_eq hu) (z_ixA hu (z_var 1 (pv 1)) z_int) z_str) (ss_one (s_ret (z_methO T.at_Reading T.cl_Reading T.me_Reading_pledge (okK_Reading_pledge T) (hr.mono (by decide)) T.b_Reading_pledge (z_var 0 (pv 0)) (a_cons (z_ixA hu (z_var 1 (pv 1)) z_int) (a_cons (z_var 2 (pv 2)) (a_cons (z_ixA hu (z_var 1 (pv 1)) z_int) a_nil)))))) ss_nil)
  (ss_cons (s_if (tt_cmp (c_eq hu) (z_fld (T.f_Cause "town" (by decide +kernel)) (z_var 2 (pv 2))) (z_ixA hu (z_var 1 (pv 1)) z_int)) (ss_one (s_ret z_str)) ss_nil)
  (ss_cons (s_fld (T.f_Cause "town" (by decide +kernel)) (z_var 2 (pv 2)) (z_ixA hu (z_var 1 (pv 1)) z_int))
  (ss_cons (s_fld (T.f_Cause "until" (by decide +kernel)) (z_var 2 (pv 2)) (z_neg z_int))
  (ss_one (s_ret (z_gstr T.c_TAKES)))))))))
abbrev N_Reading_read : List Str := ["self", "paper", "cause", "day", "word"]
theorem sc_Reading_read : FnScope N_Reading_read ["self", "paper"] (defScope (clsDef (top 37) 3)) := ⟨rfl, rfl, rfl, by decide +kernel, rfl, by decide +kernel, by decide +kernel⟩
theorem okK_Reading_read (T : Tx w.params K mg) : FnK P w K mg base 7 T.a_Reading_read T.fd_Reading_read ["self", "paper"] m_Reading_read := by
  refine fnK_of (N := N_Reading_read) (k := 6) T.F_Reading_read sc_Reading_read rfl fun cdv A fs s H E hr => ?_
  have hu := un100 hr
  have sc := sc_Reading_read
  exact (ss_cons (s_tup (is := [3, 4]) (z_sl (z_var 1 (pv 1)) o_none (o_some z_int)) (pg_tup rfl (pgs_cons (pg_name (i := 3) sc.nd rfl (by first | exact Or.inl rfl | exact Or.inr rfl)) (pgs_cons (pg_name (i := 4) sc.nd rfl (by first | exact Or.inl rfl | exact Or.inr rfl)) pgs_nil))))
  (ss_cons (s_if (tt_cmp (c_inA (by exact hu)) (z_var 1 (pv 1)) (z_fld (T.f_Reading "struck" (by decide +kernel)) (z_var 0 (pv 0)))) (ss_one (s_ret z_str)) ss_nil)
  (ss_cons (s_if (tt_cmp (c_eq hu) (z_var 4 (pv 4)) z_str) (ss_one (s_ret (z_methO T.at_Reading T.cl_Reading T.me_Reading_charge (okK_Reading_charge T) (hr.mono (by decide)) T.b_Reading_charge (z_var 0 (pv 0)) (a_cons (z_var 1 (pv 1)) a_nil)))) ss_nil)
  (ss_cons (s_if (tt_cmp (c_eq hu) (z_var 4 (pv 4)) z_str) (ss_one (s_ret (z_methO T.at_Reading T.cl_Reading T.me_Reading_pardon (okK_Reading_pardon T) (hr.mono (by decide)) T.b_Reading_pardon (z_var 0 (pv 0)) (a_cons (z_var 3 (pv 3)) (a_cons (z_sl (z_var 1 (pv 1)) (o_some z_int) o_none) a_nil))))) ss_nil)
  (ss_cons (s_if (tt_cmp (c_ninA (by exact hu)) (z_ixA hu (z_var 1 (pv 1)) z_int) (z_fld (T.f_Reading "causes" (by decide +kernel)) (z_var 0 (pv 0)))) (ss_one (s_ret z_str)) ss_nil)
  (ss_cons (s_set (i := 2) sc.nd rfl (by first | exact Or.inl rfl | exact Or.inr rfl) (z_ixA hu (z_fld (T.f_Reading "causes" (by decide +kernel)) (z_var 0 (pv 0))) (z_ixA hu (z_var 1 (pv 1)) z_int)))
  (ss_cons (s_if (tt_cmp (c_eq hu) (z_var 4 (pv 4)) z_str) (ss_one (s_ret (z_methO T.at_Reading T.cl_Reading T.me_Reading_aside (okK_Reading_aside T) (hr.mono (by decide)) T.b_Reading_aside (z_var 0 (pv 0)) (a_cons (z_var 1 (pv 1)) (a_cons (z_var 2 (pv 2)) a_nil))))) ss_nil)
  (ss_cons (s_if (tt_cmp (c_inA (by exact hu)) (z_var 4 (pv 4)) (z_tup (a_cons z_str (a_cons z_str (a_cons z_str a_nil))))) (ss_one (s_ret (z_methO T.at_Reading T.cl_Reading T.me_Reading_in_open (okK_Reading_in_open T) (hr.mono (by decide)) T.b_Reading_in_open (z_var 0 (pv 0)) (a_cons (z_var 1 (pv 1)) (a_cons (z_var 2 (pv 2)) a_nil))))) ss_nil)
  (ss_one (s_ret (z_methO T.at_Reading T.cl_Reading T.me_Reading_by_bench (okK_Reading_by_bench T) (hr.mono (by decide)) T.b_Reading_by_bench (z_var 0 (pv 0)) (a_cons (z_var 1 (pv 1)) (a_cons (z_var 2 (pv 2)) a_nil)))))))))))))
abbrev N_read_by : List Str := ["bench", "papers", "struck", "done", "reading", "paper"]
theorem sc_read_by : FnScope N_read_by ["bench", "papers"] (defScope (top 38)) := ⟨rfl, rfl, rfl, by decide +kernel, rfl, by decide +kernel, by decide +kernel⟩
theorem okK_read_by (T : Tx w.params K mg) : FnK P w K mg base 8 T.a_read_by T.fd_read_by ["bench", "papers"] m_read_by := by
  refine fnK_of (N := N_read_by) (k := 7) T.F_read_by sc_read_by rfl fun cdv A fs s H E hr => ?_
  have hu := un100 hr
  have sc := sc_read_by
  exact (ss_cons (s_parA (i := 2) (j := 3) rfl sc.nd rfl rfl (by decide) rfl rfl (a_cons z_dictT (a_cons (z_lstN a_nil) a_nil)) (by rfl))
  (ss_one (s_while (passes_of rfl) (t_tru z_bl) (ss_cons (s_set (i := 4) sc.nd rfl (by first | exact Or.inl rfl | exact Or.inr rfl) (z_make T.at_Reading T.mk_Reading (okK_Reading_init T) (hr.mono (by decide)) T.gm_Reading T.b_Reading_init (a_cons (z_var 0 (pv 0)) (a_cons (z_var 2 (pv 2)) (a_cons (z_var 3 (pv 3)) a_nil)))))
  (ss_cons (s_for (g := (.nm 5)) (passes_of rfl) rfl (i_seq (z_var 1 (pv 1))) (pg_name (i := 5) sc.nd rfl (by first | exact Or.inl rfl | exact Or.inr rfl)) (ss_one (s_if (tt_cmp c_is (z_fld (T.f_Reading "strike" (by decide +kernel)) (z_var 4 (pv 4))) z_non) (ss_one (s_expr (z_app (z_fld (T.f_Reading "words" (by decide +kernel)) (z_var 4 (pv 4))) (a_cons (z_methO T.at_Reading T.cl_Reading T.me_Reading_read (okK_Reading_read T) (hr.mono (by decide)) T.b_Reading_read (z_var 4 (pv 4)) (a_cons (z_var 5 (pv 5)) a_nil)) a_nil)))) ss_nil)))
  (ss_cons (s_if (tt_cmp c_is (z_fld (T.f_Reading "strike" (by decide +kernel)) (z_var 4 (pv 4))) z_non) (ss_one (s_ret (z_var 4 (pv 4)))) ss_nil)
  (ss_cons (s_expr (z_app (z_var 3 (pv 3)) (a_cons (z_ixA hu (z_fld (T.f_Reading "strike" (by decide +kernel)) (z_var 4 (pv 4))) z_int) a_nil)))
  (ss_one (s_subA hu (z_var 2 (pv 2)) (z_ixA hu (z_fld (T.f_Reading "strike" (by decide +kernel)) (z_var 4 (pv 4))) z_int) (z_ixA hu (z_fld (T.f_Reading "strike" (by decide +kernel)) (z_var 4 (pv 4))) z_int))))))))))
abbrev N_outcomes : List Str := ["bench", "roll"]
theorem sc_outcomes : FnScope N_outcomes ["bench", "roll"] (defScope (top 39)) := ⟨rfl, rfl, rfl, by decide +kernel, rfl, by decide +kernel, by decide +kernel⟩
theorem okK_outcomes (T : Tx w.params K mg) : FnK P w K mg base 9 T.a_outcomes T.fd_outcomes ["bench", "roll"] m_outcomes := by
  refine fnK_of (N := N_outcomes) (k := 8) T.F_outcomes sc_outcomes rfl fun cdv A fs s H E hr => ?_
  have hu := un100 hr
  have sc := sc_outcomes
  exact (ss_cons (s_expr (z_callK (okK_need_both T) (hr.mono (by decide)) T.g_need_both T.F_need_both.kp T.b_need_both (passAt (takes_of rfl rfl rfl rfl)) (a_cons (z_var 0 (pv 0)) (a_cons (z_var 1 (pv 1)) a_nil))))
  (ss_one (s_ret (z_fld (T.f_Reading "words" (by decide +kernel)) (z_callK (okK_read_by T) (hr.mono (by decide)) T.g_read_by T.F_read_by.kp T.b_read_by (passAt (takes_of rfl rfl rfl rfl)) (a_cons (z_var 0 (pv 0)) (a_cons (z_var 1 (pv 1)) a_nil)))))))
theorem ok_outcomes (T : Tx w.params K mg) : FnG P w K mg base 9 T.a_outcomes T.fd_outcomes ["bench", "roll"] m_outcomes := (okK_outcomes T).toG
abbrev N_law_cell : List Str := ["_law_script", "_law_k"]
theorem sc_law_cell : FnScope N_law_cell ["_law_script", "_law_k"] (defScope (top 41)) := ⟨rfl, rfl, rfl, by decide +kernel, rfl, by decide +kernel, by decide +kernel⟩
theorem okK_law_cell (T : Tx w.params K mg) : FnK P w K mg base 1 T.a_law_cell T.fd_law_cell ["_law_script", "_law_k"] m_law_cell := by
  refine fnK_of (N := N_law_cell) (k := 0) T.F_law_cell sc_law_cell rfl fun cdv A fs s H E hr => ?_
  have hu := un100 hr
  have sc := sc_law_cell
  exact (ss_cons (s_if (tt_cmp (c_lt hu) (z_var 1 (pv 1)) (z_blt T.n_len call_len dLen_ok PySem.boot_len (a_cons (z_var 0 (pv 0)) a_nil))) (ss_one (s_ret (z_ixA hu (z_var 0 (pv 0)) (z_var 1 (pv 1))))) ss_nil)
  (ss_one (s_ret z_int)))
theorem ok_law_cell (T : Tx w.params K mg) : FnG P w K mg base 1 T.a_law_cell T.fd_law_cell ["_law_script", "_law_k"] m_law_cell := (okK_law_cell T).toG
abbrev N_law_pen : List Str := ["_law_cell_here", "_law_left"]
theorem sc_law_pen : FnScope N_law_pen ["_law_cell_here"] (defScope (top 42)) := ⟨rfl, rfl, rfl, by decide +kernel, rfl, by decide +kernel, by decide +kernel⟩
theorem okK_law_pen (T : Tx w.params K mg) : FnK P w K mg base 1 T.a_law_pen T.fd_law_pen ["_law_cell_here"] m_law_pen := by
  refine fnK_of (N := N_law_pen) (k := 0) T.F_law_pen sc_law_pen rfl fun cdv A fs s H E hr => ?_
  have hu := un100 hr
  have sc := sc_law_pen
  exact (ss_cons (s_set (i := 1) sc.nd rfl (by first | exact Or.inl rfl | exact Or.inr rfl) (z_blt T.n_max (call_max2 rfl) dMax2_ok PyProof.Rows.boot_max (a_cons (z_var 0 (pv 0)) (a_cons (z_sub z_int (z_var 0 (pv 0))) a_nil))))
  (ss_one (s_ret (z_lstN (a_cons (z_var 1 (pv 1)) (a_cons (z_typ T.n_int call_int1 dInt_ok PyProof.Rows.boot_int (a_cons (e_cmp (c_ge hu) (z_var 1 (pv 1)) (z_pow z_int z_int)) a_nil)) a_nil))))))
theorem ok_law_pen (T : Tx w.params K mg) : FnG P w K mg base 1 T.a_law_pen T.fd_law_pen ["_law_cell_here"] m_law_pen := (okK_law_pen T).toG
abbrev N_law_draw : List Str := ["_law_pen_here", "_law_many", "_law_stir", "_law_left", "_law_got"]
theorem sc_law_draw : FnScope N_law_draw ["_law_pen_here", "_law_many"] (defScope (top 43)) := ⟨rfl, rfl, rfl, by decide +kernel, rfl, by decide +kernel, by decide +kernel⟩
theorem okK_law_draw (T : Tx w.params K mg) : FnK P w K mg base 1 T.a_law_draw T.fd_law_draw ["_law_pen_here", "_law_many"] m_law_draw := by
  refine fnK_of (N := N_law_draw) (k := 0) T.F_law_draw sc_law_draw rfl fun cdv A fs s H E hr => ?_
  have hu := un100 hr
  have sc := sc_law_draw
  exact (ss_cons (s_if (tt_cmp (c_eq hu) (z_ixA hu (z_var 0 (pv 0)) z_int) z_int) (ss_cons (s_tup (is := [3, 4]) (z_blt T.n_divmod call_divmod dDivmod_ok PyProof.Rows.boot_divmod (a_cons (z_ixA hu (z_var 0 (pv 0)) z_int) (a_cons (z_var 1 (pv 1)) a_nil))) (pg_tup rfl (pgs_cons (pg_name (i := 3) sc.nd rfl (by first | exact Or.inl rfl | exact Or.inr rfl)) (pgs_cons (pg_name (i := 4) sc.nd rfl (by first | exact Or.inl rfl | exact Or.inr rfl)) pgs_nil))))
  (ss_cons (s_subA hu (z_var 0 (pv 0)) z_int (z_var 3 (pv 3)))
  (ss_one (s_ret (z_var 4 (pv 4)))))) ss_nil)
  (ss_cons (s_set (i := 2) sc.nd rfl (by first | exact Or.inl rfl | exact Or.inr rfl) (z_mod (z_mul (z_add (z_mod (z_ixA hu (z_var 0 (pv 0)) z_int) z_int) z_int) z_int) z_int))
  (ss_cons (s_set (i := 2) sc.nd rfl (by first | exact Or.inl rfl | exact Or.inr rfl) (z_mod (z_add (z_mul (z_var 2 (pv 2)) (z_var 2 (pv 2))) z_int) z_int))
  (ss_cons (s_subA hu (z_var 0 (pv 0)) z_int (z_mod (z_add (z_mul (z_var 2 (pv 2)) z_int) z_int) z_int))
  (ss_one (s_ret (z_mod (z_fdiv (z_ixA hu (z_var 0 (pv 0)) z_int) z_int) (z_var 1 (pv 1)))))))))
abbrev N_law_cause : List Str := ["_law_person", "_law_deed", "_law_town", "_law_cause_here"]
theorem sc_law_cause : FnScope N_law_cause ["_law_person", "_law_deed", "_law_town"] (defScope (top 44)) := ⟨rfl, rfl, rfl, by decide +kernel, rfl, by decide +kernel, by decide +kernel⟩
theorem okK_law_cause (T : Tx w.params K mg) : FnK P w K mg base 1 T.a_law_cause T.fd_law_cause ["_law_person", "_law_deed", "_law_town"] m_law_cause := by
  refine fnK_of (N := N_law_cause) (k := 0) T.F_law_cause sc_law_cause rfl fun cdv A fs s H E hr => ?_
  have hu := un100 hr
  have sc := sc_law_cause
  exact (ss_cons (s_set (i := 3) sc.nd rfl (by first | exact Or.inl rfl | exact Or.inr rfl) (z_dispN (ps := [((mC (.str "word")), (mC (.str "charged"))), ((mC (.str "person")), (mVar 0)), ((mC (.str "deed")), (mVar 1)), ((mC (.str "town")), (mVar 2)), ((mC (.str "since")), (mC .non)), ((mC (.str "past")), (mC (.int 0)))]) (pps1 z_str z_str (pps1 z_str (z_var 0 (pv 0)) (pps1 z_str (z_var 1 (pv 1)) (pps1 z_str (z_var 2 (pv 2)) (pps1 z_str z_non (pps1 z_str z_int pps0))))))))
  (ss_cons (s_expr (z_m1 PySem.F.plainAttrs_dict PySem.F.slot_dict_update PySem.F.type_dict_update mt_update dUpdate_ok (z_var 3 (pv 3)) (a_cons (z_disp (ps := [((mC (.str "pledge")), (mC .non)), ((mC (.str "puts")), (mC (.int 0))), ((mC (.str "until")), (mUn dNeg (mC (.int 1)))), ((mC (.str "by")), (mC .non))]) (pps1 z_str z_non (pps1 z_str z_int (pps1 z_str (z_neg z_int) (pps1 z_str z_non pps0))))) a_nil)))
  (ss_one (s_ret (z_var 3 (pv 3))))))
abbrev N_law_held : List Str := ["_law_hold", "_law_cause_here", "_law_day"]
theorem sc_law_held : FnScope N_law_held ["_law_hold", "_law_cause_here", "_law_day"] (defScope (top 45)) := ⟨rfl, rfl, rfl, by decide +kernel, rfl, by decide +kernel, by decide +kernel⟩
theorem okK_law_held (T : Tx w.params K mg) : FnK P w K mg base 1 T.a_law_held T.fd_law_held ["_law_hold", "_law_cause_here", "_law_day"] m_law_held := by
  refine fnK_of (N := N_law_held) (k := 0) T.F_law_held sc_law_held rfl fun cdv A fs s H E hr => ?_
  have hu := un100 hr
  have sc := sc_law_held
  exact (ss_one (s_ret (v_and (e_cmp c_isn (z_ixA hu (z_var 1 (pv 1)) z_str) z_non) (v_and1 (e_cmp (c_lt hu) (z_sub (z_add (z_ixA hu (z_var 1 (pv 1)) z_str) (z_var 2 (pv 2))) (z_ixA hu (z_var 1 (pv 1)) z_str)) (z_var 0 (pv 0)))))))
abbrev N_law_free : List Str := ["_law_hold", "_law_cause_here", "_law_day"]
theorem sc_law_free : FnScope N_law_free ["_law_hold", "_law_cause_here", "_law_day"] (defScope (top 46)) := ⟨rfl, rfl, rfl, by decide +kernel, rfl, by decide +kernel, by decide +kernel⟩
theorem okK_law_free (T : Tx w.params K mg) : FnK P w K mg base 1 T.a_law_free T.fd_law_free ["_law_hold", "_law_cause_here", "_law_day"] m_law_free := by
  refine fnK_of (N := N_law_free) (k := 0) T.F_law_free sc_law_free rfl fun cdv A fs s H E hr => ?_
  have hu := un100 hr
  have sc := sc_law_free
  exact (ss_cons (s_if (tt_cmp c_isn (z_ixA hu (z_var 1 (pv 1)) z_str) z_non) (ss_one (s_subA hu (z_var 1 (pv 1)) z_str (z_blt T.n_min (call_min2 rfl) dMin2_ok PyProof.Rows.boot_min (a_cons (z_var 0 (pv 0)) (a_cons (z_sub (z_add (z_ixA hu (z_var 1 (pv 1)) z_str) (z_var 2 (pv 2))) (z_ixA hu (z_var 1 (pv 1)) z_str)) a_nil))))) ss_nil)
  (ss_one (s_subA hu (z_var 1 (pv 1)) z_str z_non)))
abbrev N_law_close : List Str := ["_law_hold", "_law_cause_here", "_law_day", "_law_word"]
theorem sc_law_close : FnScope N_law_close ["_law_hold", "_law_cause_here", "_law_day", "_law_word"] (defScope (top 47)) := ⟨rfl, rfl, rfl, by decide +kernel, rfl, by decide +kernel, by decide +kernel⟩
theorem okK_law_close (T : Tx w.params K mg) : FnK P w K mg base 2 T.a_law_close T.fd_law_close ["_law_hold", "_law_cause_here", "_law_day", "_law_word"] m_law_close := by
  refine fnK_of (N := N_law_close) (k := 1) T.F_law_close sc_law_close rfl fun cdv A fs s H E hr => ?_
  have hu := un100 hr
  have sc := sc_law_close
  exact (ss_cons (s_expr (z_callK (okK_law_free T) (hr.mono (by decide)) T.g_law_free T.F_law_free.kp T.b_law_free (passAt (takes_of rfl rfl rfl rfl)) (a_cons (z_var 0 (pv 0)) (a_cons (z_var 1 (pv 1)) (a_cons (z_var 2 (pv 2)) a_nil)))))
  (ss_cons (s_subA hu (z_var 1 (pv 1)) z_str z_non)
  (ss_one (s_subA hu (z_var 1 (pv 1)) z_str (z_var 3 (pv 3))))))
abbrev N_law_last : List Str := ["_law_bench", "_law_day", "_law_town", "_law_there", "_law_first", "_law_last_here", "_law_where"]
theorem sc_law_last : FnScope N_law_last ["_law_bench", "_law_day", "_law_town"] (defScope (top 48)) := ⟨rfl, rfl, rfl, by decide +kernel, rfl, by decide +kernel, by decide +kernel⟩
theorem okK_law_last (T : Tx w.params K mg) : FnK P w K mg base 1 T.a_law_last T.fd_law_last ["_law_bench", "_law_day", "_law_town"] m_law_last := by
  refine fnK_of (N := N_law_last) (k := 0) T.F_law_last sc_law_last rfl fun cdv A fs s H E hr => ?_
  have hu := un100 hr
  have sc := sc_law_last
  exact (ss_cons (s_setComp (i := 3) (own := [("_law_first", 4), ("_law_last_here", 5), ("_law_where", 6)]) (g := (.tp [4, 5, 6])) rfl sc.nd rfl rfl (sw_true rfl rfl rfl (by decide +kernel)) (i_seq (z_ixA hu (z_var 0 (pv 0)) z_int)) (blkOk_by (sc := defScope (top 48)) (N := N_law_last) (by first | decide +kernel | rfl)) (fun _ _ _ _ _ => (pg_tup rfl (pgs_cons (pg_name (i := 4) sc.nd rfl (by first | exact Or.inl rfl | exact Or.inr rfl)) (pgs_cons (pg_name (i := 5) sc.nd rfl (by first | exact Or.inl rfl | exact Or.inr rfl)) (pgs_cons (pg_name (i := 6) sc.nd rfl (by first | exact Or.inl rfl | exact Or.inr rfl)) pgs_nil))))) (fun _ _ _ _ _ => (ts_one (PW.pt (w_and (tt_chain (c_le hu) (c_le hu) (z_var 4 (pv 4)) (z_var 1 (pv 1)) (z_var 5 (pv 5))) (w_and1 (tt_cmp (c_eq hu) (z_var 6 (pv 6)) (z_var 2 (pv 2)))))))) (fun _ _ _ _ _ => (z_var 5 (pv 5))) (by decide))
  (ss_one (s_ret (z_ixA hu (z_add (z_var 3 (pv 3)) (z_lst (a_cons z_non a_nil))) z_int))))
abbrev N_law_judged : List Str := ["_law_causes", "_law_but", "_law_person", "_law_deed", "_law_same", "_law_one", "_law_cause_here"]
theorem sc_law_judged : FnScope N_law_judged ["_law_causes", "_law_but", "_law_person", "_law_deed"] (defScope (top 49)) := ⟨rfl, rfl, rfl, by decide +kernel, rfl, by decide +kernel, by decide +kernel⟩
theorem okK_law_judged (T : Tx w.params K mg) : FnK P w K mg base 1 T.a_law_judged T.fd_law_judged ["_law_causes", "_law_but", "_law_person", "_law_deed"] m_law_judged := by
  refine fnK_of (N := N_law_judged) (k := 0) T.F_law_judged sc_law_judged rfl fun cdv A fs s H E hr => ?_
  have hu := un100 hr
  have sc := sc_law_judged
  exact (ss_cons (s_lock (s_setComp (i := 4) (own := [("_law_one", 5), ("_law_cause_here", 6)]) (g := (.tp [5, 6])) rfl sc.nd rfl rfl (sw_true rfl rfl rfl (by decide +kernel)) (i_items (z_var 0 (pv 0))) (blkOk_by (sc := defScope (top 49)) (N := N_law_judged) (by first | decide +kernel | rfl)) (fun _ _ _ _ _ => (pg_tup rfl (pgs_cons (pg_name (i := 5) sc.nd rfl (by first | exact Or.inl rfl | exact Or.inr rfl)) (pgs_cons (pg_name (i := 6) sc.nd rfl (by first | exact Or.inl rfl | exact Or.inr rfl)) pgs_nil)))) (fun _ _ _ _ _ => (ts_one (tt_cmp (c_eq hu) (z_tup (a_cons (z_ixA hu (z_var 6 (pv 6)) z_str) (a_cons (z_ixA hu (z_var 6 (pv 6)) z_str) a_nil))) (z_tup (a_cons (z_var 2 (pv 2)) (a_cons (z_var 3 (pv 3)) a_nil)))))) (fun _ _ _ _ _ => (z_var 5 (pv 5))) (by decide)))
  (ss_one (s_ret (e_cmp (c_ne hu) (z_comp (own := [("_law_one", 5)]) (g := (.nm 5)) rfl sc.nd (i_seq (z_var 4 (pv 4))) (blkOk_by (sc := defScope (top 49)) (N := N_law_judged) (by first | decide +kernel | rfl)) (fun _ _ _ _ _ => (pg_name (i := 5) sc.nd rfl (by first | exact Or.inl rfl | exact Or.inr rfl))) (fun _ _ _ _ _ => (ts_one (PW.pt (w_and (tt_cmp (c_ne hu) (z_var 5 (pv 5)) (z_var 1 (pv 1))) (w_and1 (tt_cmp (c_inA (by exact hu)) (z_ixA hu (z_ixA hu (z_var 0 (pv 0)) (z_var 5 (pv 5))) z_str) (z_tup (a_cons z_str (a_cons z_str a_nil))))))))) (fun _ _ _ _ _ => (z_var 5 (pv 5))) (by decide)) (z_lst a_nil)))))
abbrev N_law_charge : List Str := ["_law_causes", "_law_pardons", "_law_paper", "_law_number", "_law_person", "_law_deed", "_law_town"]
theorem sc_law_charge : FnScope N_law_charge ["_law_causes", "_law_pardons", "_law_paper"] (defScope (top 50)) := ⟨rfl, rfl, rfl, by decide +kernel, rfl, by decide +kernel, by decide +kernel⟩
theorem okK_law_charge (T : Tx w.params K mg) : FnK P w K mg base 2 T.a_law_charge T.fd_law_charge ["_law_causes", "_law_pardons", "_law_paper"] m_law_charge := by
  refine fnK_of (N := N_law_charge) (k := 1) T.F_law_charge sc_law_charge rfl fun cdv A fs s H E hr => ?_
  have hu := un100 hr
  have sc := sc_law_charge
  exact (ss_cons (s_tup (is := [3, 4, 5, 6]) (z_sl (z_var 2 (pv 2)) (o_some z_int) o_none) (pg_tup rfl (pgs_cons (pg_name (i := 3) sc.nd rfl (by first | exact Or.inl rfl | exact Or.inr rfl)) (pgs_cons (pg_name (i := 4) sc.nd rfl (by first | exact Or.inl rfl | exact Or.inr rfl)) (pgs_cons (pg_name (i := 5) sc.nd rfl (by first | exact Or.inl rfl | exact Or.inr rfl)) (pgs_cons (pg_name (i := 6) sc.nd rfl (by first | exact Or.inl rfl | exact Or.inr rfl)) pgs_nil))))))
  (ss_cons (s_if (tt_cmp (c_inA (by exact hu)) (z_var 3 (pv 3)) (z_var 0 (pv 0))) (ss_one (s_ret z_str)) ss_nil)
  (ss_cons (s_if (t_tru (z_callK (okK_law_judged T) (hr.mono (by decide)) T.g_law_judged T.F_law_judged.kp T.b_law_judged (passAt (takes_of rfl rfl rfl rfl)) (a_cons (z_var 0 (pv 0)) (a_cons (z_var 3 (pv 3)) (a_cons (z_var 4 (pv 4)) (a_cons (z_var 5 (pv 5)) a_nil)))))) (ss_one (s_ret z_str)) ss_nil)
  (ss_cons (s_if (tt_cmp (c_inA (by exact hu)) (z_tup (a_cons (z_var 4 (pv 4)) (a_cons (z_var 5 (pv 5)) a_nil))) (z_var 1 (pv 1))) (ss_one (s_ret z_str)) ss_nil)
  (ss_cons (s_subA hu (z_var 0 (pv 0)) (z_var 3 (pv 3)) (z_callK (okK_law_cause T) (hr.mono (by decide)) T.g_law_cause T.F_law_cause.kp T.b_law_cause (passAt (takes_of rfl rfl rfl rfl)) (a_cons (z_var 4 (pv 4)) (a_cons (z_var 5 (pv 5)) (a_cons (z_var 6 (pv 6)) a_nil)))))
  (ss_one (s_ret z_str)))))))
abbrev N_law_pardon : List Str := ["_law_hold", "_law_causes", "_law_pardons", "_law_paper", "_law_cause_here"]
theorem sc_law_pardon : FnScope N_law_pardon ["_law_hold", "_law_causes", "_law_pardons", "_law_paper"] (defScope (top 51)) := ⟨rfl, rfl, rfl, by decide +kernel, rfl, by decide +kernel, by decide +kernel⟩
theorem okK_law_pardon (T : Tx w.params K mg) : FnK P w K mg base 3 T.a_law_pardon T.fd_law_pardon ["_law_hold", "_law_causes", "_law_pardons", "_law_paper"] m_law_pardon := by
  refine fnK_of (N := N_law_pardon) (k := 2) T.F_law_pardon sc_law_pardon rfl fun cdv A fs s H E hr => ?_
  have hu := un100 hr
  have sc := sc_law_pardon
  exact (ss_cons (s_if (tt_cmp (c_inA (by exact hu)) (z_sl (z_var 3 (pv 3)) (o_some z_int) o_none) (z_var 2 (pv 2))) (ss_one (s_ret z_str)) ss_nil)
  (ss_cons (s_expr (z_app (z_var 2 (pv 2)) (a_cons (z_sl (z_var 3 (pv 3)) (o_some z_int) o_none) a_nil)))
  (ss_cons (s_lock (s_for (g := (.nm 4)) (passes_of rfl) rfl (i_vals (z_var 1 (pv 1))) (pg_name (i := 4) sc.nd rfl (by first | exact Or.inl rfl | exact Or.inr rfl)) (ss_one (s_if (PW.pt (w_and (tt_cmp (c_eq hu) (z_tup (a_cons (z_ixA hu (z_var 4 (pv 4)) z_str) (a_cons (z_ixA hu (z_var 4 (pv 4)) z_str) a_nil))) (z_sl (z_var 3 (pv 3)) (o_some z_int) o_none)) (w_and1 (tt_cmp (c_inA (by exact hu)) (z_ixA hu (z_var 4 (pv 4)) z_str) (z_tup (a_cons z_str (a_cons z_str a_nil))))))) (ss_one (s_expr (z_callK (okK_law_close T) (hr.mono (by decide)) T.g_law_close T.F_law_close.kp T.b_law_close (passAt (takes_of rfl rfl rfl rfl)) (a_cons (z_var 0 (pv 0)) (a_cons (z_var 4 (pv 4)) (a_cons (z_ixA hu (z_var 3 (pv 3)) z_int) (a_cons z_str a_nil))))))) ss_nil))))
  (ss_one (s_ret z_str)))))
abbrev N_law_holds : List Str := ["_law_hold", "_law_cause_here", "_law_day"]
theorem sc_law_holds : FnScope N_law_holds ["_law_hold", "_law_cause_here", "_law_day"] (defScope (top 52)) := ⟨rfl, rfl, rfl, by decide +kernel, rfl, by decide +kernel, by decide +kernel⟩
theorem okK_law_holds (T : Tx w.params K mg) : FnK P w K mg base 2 T.a_law_holds T.fd_law_holds ["_law_hold", "_law_cause_here", "_law_day"] m_law_holds := by
  refine fnK_of (N := N_law_holds) (k := 1) T.F_law_holds sc_law_holds rfl fun cdv A fs s H E hr => ?_
  have hu := un100 hr
  have sc := sc_law_holds
  exact (ss_cons (s_if (tt_cmp c_isn (z_ixA hu (z_var 1 (pv 1)) z_str) z_non) (ss_one (s_ret z_str)) ss_nil)
  (ss_cons (s_if (t_tru (z_callK (okK_law_held T) (hr.mono (by decide)) T.g_law_held T.F_law_held.kp T.b_law_held (passAt (takes_of rfl rfl rfl rfl)) (a_cons (z_var 0 (pv 0)) (a_cons (z_var 1 (pv 1)) (a_cons (z_var 2 (pv 2)) a_nil))))) (ss_one (s_ret z_str)) ss_nil)
  (ss_cons (s_expr (z_callK (okK_law_free T) (hr.mono (by decide)) T.g_law_free T.F_law_free.kp T.b_law_free (passAt (takes_of rfl rfl rfl rfl)) (a_cons (z_var 0 (pv 0)) (a_cons (z_var 1 (pv 1)) (a_cons (z_var 2 (pv 2)) a_nil)))))
  (ss_cons (s_if (tt_cmp (c_eq hu) (z_ixA hu (z_var 1 (pv 1)) z_str) (z_var 0 (pv 0))) (ss_one (s_ret z_str)) ss_nil)
  (ss_cons (s_subA hu (z_var 1 (pv 1)) z_str (z_var 2 (pv 2)))
  (ss_one (s_ret z_str)))))))
abbrev N_law_pledges : List Str := ["_law_bench", "_law_causes", "_law_cause_here", "_law_day", "_law_person", "_law_one"]
theorem sc_law_pledges : FnScope N_law_pledges ["_law_bench", "_law_causes", "_law_cause_here", "_law_day", "_law_person"] (defScope (top 53)) := ⟨rfl, rfl, rfl, by decide +kernel, rfl, by decide +kernel, by decide +kernel⟩
theorem okK_law_pledges (T : Tx w.params K mg) : FnK P w K mg base 2 T.a_law_pledges T.fd_law_pledges ["_law_bench", "_law_causes", "_law_cause_here", "_law_day", "_law_person"] m_law_pledges := by
  refine fnK_of (N := N_law_pledges) (k := 1) T.F_law_pledges sc_law_pledges rfl fun cdv A fs s H E hr => ?_
  have hu := un100 hr
  have sc := sc_law_pledges
  exact (ss_cons (s_if (t_not (t_tru (z_callK (okK_law_held T) (hr.mono (by decide)) T.g_law_held T.F_law_held.kp T.b_law_held (passAt (takes_of rfl rfl rfl rfl)) (a_cons (z_ixA hu (z_var 0 (pv 0)) z_int) (a_cons (z_var 2 (pv 2)) (a_cons (z_var 3 (pv 3)) a_nil)))))) (ss_one (s_ret z_str)) ss_nil)
  (ss_cons (s_if (tt_cmp (c_eq hu) (z_var 4 (pv 4)) (z_ixA hu (z_var 2 (pv 2)) z_str)) (ss_one (s_ret z_str)) ss_nil)
  (ss_cons (s_if (tt_cmp (c_ge hu) (z_m1 PySem.F.plainAttrs_list PySem.F.slot_list_count PySem.F.type_list_count (mt_cntP hu) dCountP_ok (z_lock (z_comp (own := [("_law_one", 5)]) (g := (.nm 5)) rfl sc.nd (i_vals (z_var 1 (pv 1))) (blkOk_by (sc := defScope (top 53)) (N := N_law_pledges) (by first | decide +kernel | rfl)) (fun _ _ _ _ _ => (pg_name (i := 5) sc.nd rfl (by first | exact Or.inl rfl | exact Or.inr rfl))) (fun _ _ _ _ _ => ts_nil) (fun _ _ _ _ _ => (z_ixA hu (z_var 5 (pv 5)) z_str)) (by decide))) (a_cons (z_var 4 (pv 4)) a_nil)) (z_ixA hu (z_var 0 (pv 0)) z_int)) (ss_one (s_ret z_str)) ss_nil)
  (ss_cons (s_expr (z_callK (okK_law_free T) (hr.mono (by decide)) T.g_law_free T.F_law_free.kp T.b_law_free (passAt (takes_of rfl rfl rfl rfl)) (a_cons (z_ixA hu (z_var 0 (pv 0)) z_int) (a_cons (z_var 2 (pv 2)) (a_cons (z_var 3 (pv 3)) a_nil)))))
  (ss_cons (s_subA hu (z_var 2 (pv 2)) z_str (z_var 4 (pv 4)))
  (ss_one (s_ret z_str)))))))
abbrev N_law_misses : List Str := ["_law_bench", "_law_cause_here", "_law_lost", "_law_paper"]
theorem sc_law_misses : FnScope N_law_misses ["_law_bench", "_law_cause_here", "_law_lost", "_law_paper"] (defScope (top 54)) := ⟨rfl, rfl, rfl, by decide +kernel, rfl, by decide +kernel, by decide +kernel⟩
theorem okK_law_misses (T : Tx w.params K mg) : FnK P w K mg base 1 T.a_law_misses T.fd_law_misses ["_law_bench", "_law_cause_here", "_law_lost", "_law_paper"] m_law_misses := by
  refine fnK_of (N := N_law_misses) (k := 0) T.F_law_misses sc_law_misses rfl fun cdv A fs s H E hr => ?_
  have hu := un100 hr
  have sc := sc_law_misses
  exact (ss_cons (s_if (tt_cmp c_is (z_ixA hu (z_var 1 (pv 1)) z_str) z_non) (ss_one (s_ret z_str)) ss_nil)
  (ss_cons (s_expr (z_app (z_var 2 (pv 2)) (a_cons (z_tup (a_cons (z_ixA hu (z_var 3 (pv 3)) z_int) (a_cons (z_ixA hu (z_var 3 (pv 3)) z_int) (a_cons (z_ixA hu (z_var 1 (pv 1)) z_str) a_nil)))) a_nil)))
  (ss_cons (s_subA hu (z_var 1 (pv 1)) z_str z_non)
  (ss_cons (s_if (tt_cmp (c_lt hu) (z_ixA hu (z_var 1 (pv 1)) z_str) (z_ixA hu (z_var 0 (pv 0)) z_int)) (ss_one (s_subA hu (z_var 1 (pv 1)) z_str (z_ixA hu (z_var 3 (pv 3)) z_int))) ss_nil)
  (ss_one (s_ret z_str))))))
abbrev N_law_heard : List Str := ["_law_bench", "_law_causes", "_law_cause_here", "_law_paper", "_law_day"]
theorem sc_law_heard : FnScope N_law_heard ["_law_bench", "_law_causes", "_law_cause_here", "_law_paper"] (defScope (top 55)) := ⟨rfl, rfl, rfl, by decide +kernel, rfl, by decide +kernel, by decide +kernel⟩
theorem okK_law_heard (T : Tx w.params K mg) : FnK P w K mg base 3 T.a_law_heard T.fd_law_heard ["_law_bench", "_law_causes", "_law_cause_here", "_law_paper"] m_law_heard := by
  refine fnK_of (N := N_law_heard) (k := 2) T.F_law_heard sc_law_heard rfl fun cdv A fs s H E hr => ?_
  have hu := un100 hr
  have sc := sc_law_heard
  exact (ss_cons (s_set (i := 4) sc.nd rfl (by first | exact Or.inl rfl | exact Or.inr rfl) (z_ixA hu (z_var 3 (pv 3)) z_int))
  (ss_cons (s_if (tt_cmp (c_ge hu) (z_ixA hu (z_var 2 (pv 2)) z_str) (z_var 4 (pv 4))) (ss_one (s_ret z_str)) ss_nil)
  (ss_cons (s_if (tt_cmp (c_eq hu) (z_ixA hu (z_var 3 (pv 3)) z_int) z_str) (ss_cons (s_if (tt_cmp (c_eq hu) (z_ixA hu (z_var 2 (pv 2)) z_str) (z_ixA hu (z_var 0 (pv 0)) z_int)) (ss_one (s_ret z_str)) ss_nil)
  (ss_cons (s_subA hu (z_var 2 (pv 2)) z_str (z_add (z_ixA hu (z_var 2 (pv 2)) z_str) z_int))
  (ss_cons (s_subA hu (z_var 2 (pv 2)) z_str (z_callK (okK_law_last T) (hr.mono (by decide)) T.g_law_last T.F_law_last.kp T.b_law_last (passAt (takes_of rfl rfl rfl rfl)) (a_cons (z_var 0 (pv 0)) (a_cons (z_var 4 (pv 4)) (a_cons (z_ixA hu (z_var 2 (pv 2)) z_str) a_nil)))))
  (ss_one (s_ret z_str))))) ss_nil)
  (ss_cons (s_if (t_tru (z_callK (okK_law_judged T) (hr.mono (by decide)) T.g_law_judged T.F_law_judged.kp T.b_law_judged (passAt (takes_of rfl rfl rfl rfl)) (a_cons (z_var 1 (pv 1)) (a_cons (z_ixA hu (z_var 3 (pv 3)) z_int) (a_cons (z_ixA hu (z_var 2 (pv 2)) z_str) (a_cons (z_ixA hu (z_var 2 (pv 2)) z_str) a_nil)))))) (ss_one (s_ret z_str)) ss_nil)
  (ss_cons (s_expr (z_callK (okK_law_close T) (hr.mono (by decide)) T.g_law_close T.F_law_close.kp T.b_law_close (passAt (takes_of rfl rfl rfl rfl)) (a_cons (z_ixA hu (z_var 0 (pv 0)) z_int) (a_cons (z_var 2 (pv 2)) (a_cons (z_var 4 (pv 4)) (a_cons (z_ixA hu (z_lst (a_cons z_str (a_cons z_str a_nil))) (z_ixA hu (z_var 3 (pv 3)) z_int)) a_nil))))))
  (ss_cons (s_subA hu (z_var 2 (pv 2)) z_str (z_var 3 (pv 3)))
  (ss_one (s_ret z_str))))))))
abbrev N_law_done : List Str := ["_law_bench", "_law_causes", "_law_lost", "_law_paper", "_law_cause_here", "_law_wanted", "_law_day", "_law_word", "_law_number", "_law_there"]
theorem sc_law_done : FnScope N_law_done ["_law_bench", "_law_causes", "_law_lost", "_law_paper"] (defScope (top 56)) := ⟨rfl, rfl, rfl, by decide +kernel, rfl, by decide +kernel, by decide +kernel⟩
theorem okK_law_done (T : Tx w.params K mg) : FnK P w K mg base 4 T.a_law_done T.fd_law_done ["_law_bench", "_law_causes", "_law_lost", "_law_paper"] m_law_done := by
  refine fnK_of (N := N_law_done) (k := 3) T.F_law_done sc_law_done rfl fun cdv A fs s H E hr => ?_
  have hu := un100 hr
  have sc := sc_law_done
  exact (ss_cons (s_tup (is := [6, 7, 8]) (z_sl (z_var 3 (pv 3)) o_none (o_some z_int)) (pg_tup rfl (pgs_cons (pg_name (i := 6) sc.nd rfl (by first | exact Or.inl rfl | exact Or.inr rfl)) (pgs_cons (pg_name (i := 7) sc.nd rfl (by first | exact Or.inl rfl | exact Or.inr rfl)) (pgs_cons (pg_name (i := 8) sc.nd rfl (by first | exact Or.inl rfl | exact Or.inr rfl)) pgs_nil)))))
  (ss_cons (s_set (i := 4) sc.nd rfl (by first | exact Or.inl rfl | exact Or.inr rfl) (z_ixA hu (z_var 1 (pv 1)) (z_var 8 (pv 8))))
  (ss_cons (s_set (i := 5) sc.nd rfl (by first | exact Or.inl rfl | exact Or.inr rfl) (z_if (tt_cmp (c_inA (by exact hu)) (z_var 7 (pv 7)) (z_tup (a_cons z_str (a_cons z_str a_nil)))) (z_lst (a_cons z_str a_nil)) (z_sl (z_lst (a_cons z_str (a_cons z_str a_nil))) o_none (o_some (z_sub z_int (z_typ T.n_int call_int1 dInt_ok PyProof.Rows.boot_int (a_cons (e_cmp (c_eq hu) (z_var 7 (pv 7)) z_str) a_nil)))))))
  (ss_cons (s_if (tt_cmp (c_ninA (by exact hu)) (z_ixA hu (z_var 4 (pv 4)) z_str) (z_var 5 (pv 5))) (ss_one (s_ret z_str)) ss_nil)
  (ss_cons (s_if (tt_cmp (c_eq hu) (z_var 7 (pv 7)) z_str) (ss_one (s_ret (z_callK (okK_law_holds T) (hr.mono (by decide)) T.g_law_holds T.F_law_holds.kp T.b_law_holds (passAt (takes_of rfl rfl rfl rfl)) (a_cons (z_ixA hu (z_var 0 (pv 0)) z_int) (a_cons (z_var 4 (pv 4)) (a_cons (z_var 6 (pv 6)) a_nil)))))) ss_nil)
  (ss_cons (s_if (tt_cmp (c_eq hu) (z_var 7 (pv 7)) z_str) (ss_one (s_ret (z_callK (okK_law_pledges T) (hr.mono (by decide)) T.g_law_pledges T.F_law_pledges.kp T.b_law_pledges (passAt (takes_of rfl rfl rfl rfl)) (a_cons (z_var 0 (pv 0)) (a_cons (z_var 1 (pv 1)) (a_cons (z_var 4 (pv 4)) (a_cons (z_var 6 (pv 6)) (a_cons (z_ixA hu (z_var 3 (pv 3)) z_int) a_nil)))))))) ss_nil)
  (ss_cons (s_if (tt_cmp (c_eq hu) (z_var 7 (pv 7)) z_str) (ss_cons (s_tupS (ts := [.nm 9, .sub (mVar 4) (mC (.str "town"))]) (z_tup (a_cons (z_ixA hu (z_var 4 (pv 4)) z_str) (a_cons (z_ixA hu (z_var 3 (pv 3)) z_int) a_nil))) (pgs_nm (i := 9) sc.nd rfl (by first | exact Or.inl rfl | exact Or.inr rfl) (pgs_sub hu (z_var 4 (pv 4)) z_str pgs_nil)))
  (ss_cons (s_subA hu (z_var 4 (pv 4)) z_str (z_if (tt_cmp (c_eq hu) (z_var 9 (pv 9)) (z_ixA hu (z_var 3 (pv 3)) z_int)) (z_ixA hu (z_var 4 (pv 4)) z_str) (z_neg z_int)))
  (ss_one (s_ret (z_if (tt_cmp (c_eq hu) (z_var 9 (pv 9)) (z_ixA hu (z_var 3 (pv 3)) z_int)) z_str z_str))))) ss_nil)
  (ss_cons (s_if (tt_cmp c_is (z_callK (okK_law_last T) (hr.mono (by decide)) T.g_law_last T.F_law_last.kp T.b_law_last (passAt (takes_of rfl rfl rfl rfl)) (a_cons (z_var 0 (pv 0)) (a_cons (z_var 6 (pv 6)) (a_cons (z_ixA hu (z_var 4 (pv 4)) z_str) a_nil)))) z_non) (ss_one (s_ret z_str)) ss_nil)
  (ss_cons (s_if (tt_cmp (c_eq hu) (z_var 7 (pv 7)) z_str) (ss_one (s_ret (z_callK (okK_law_misses T) (hr.mono (by decide)) T.g_law_misses T.F_law_misses.kp T.b_law_misses (passAt (takes_of rfl rfl rfl rfl)) (a_cons (z_var 0 (pv 0)) (a_cons (z_var 4 (pv 4)) (a_cons (z_var 2 (pv 2)) (a_cons (z_var 3 (pv 3)) a_nil))))))) ss_nil)
  (ss_cons (s_if (tt_cmp (c_ne hu) (z_var 7 (pv 7)) z_str) (ss_one (s_ret (z_callK (okK_law_heard T) (hr.mono (by decide)) T.g_law_heard T.F_law_heard.kp T.b_law_heard (passAt (takes_of rfl rfl rfl rfl)) (a_cons (z_var 0 (pv 0)) (a_cons (z_var 1 (pv 1)) (a_cons (z_var 4 (pv 4)) (a_cons (z_var 3 (pv 3)) a_nil))))))) ss_nil)
  (ss_cons (s_if (tt_cmp (c_eq hu) (z_ixA hu (z_var 3 (pv 3)) z_int) z_int) (ss_one (s_subA hu (z_var 4 (pv 4)) z_str z_str)) (ss_one (s_expr (z_callK (okK_law_close T) (hr.mono (by decide)) T.g_law_close T.F_law_close.kp T.b_law_close (passAt (takes_of rfl rfl rfl rfl)) (a_cons (z_ixA hu (z_var 0 (pv 0)) z_int) (a_cons (z_var 4 (pv 4)) (a_cons (z_var 6 (pv 6)) (a_cons z_str a_nil))))))))
  (ss_one (s_ret z_str)))))))))))))
abbrev N_law_pass : List Str := ["_law_bench", "_law_papers", "_law_struck", "_law_paper", "_law_causes", "_law_pardons", "_law_words", "_law_lost"]
theorem sc_law_pass : FnScope N_law_pass ["_law_bench", "_law_papers", "_law_struck"] (defScope (top 57)) := ⟨rfl, rfl, rfl, by decide +kernel, rfl, by decide +kernel, by decide +kernel⟩
theorem okK_law_pass (T : Tx w.params K mg) : FnK P w K mg base 5 T.a_law_pass T.fd_law_pass ["_law_bench", "_law_papers", "_law_struck"] m_law_pass := by
  refine fnK_of (N := N_law_pass) (k := 4) T.F_law_pass sc_law_pass rfl fun cdv A fs s H E hr => ?_
  have hu := un100 hr
  have sc := sc_law_pass
  exact (ss_cons (s_tup (is := [4, 5, 6, 7]) (z_tup (a_cons z_dictN (a_cons (z_lstN a_nil) (a_cons (z_lstN a_nil) (a_cons (z_lstN a_nil) a_nil))))) (pg_tup rfl (pgs_cons (pg_name (i := 4) sc.nd rfl (by first | exact Or.inl rfl | exact Or.inr rfl)) (pgs_cons (pg_name (i := 5) sc.nd rfl (by first | exact Or.inl rfl | exact Or.inr rfl)) (pgs_cons (pg_name (i := 6) sc.nd rfl (by first | exact Or.inl rfl | exact Or.inr rfl)) (pgs_cons (pg_name (i := 7) sc.nd rfl (by first | exact Or.inl rfl | exact Or.inr rfl)) pgs_nil))))))
  (ss_cons (s_for (g := (.nm 3)) (passes_of rfl) rfl (i_seq (z_var 1 (pv 1))) (pg_name (i := 3) sc.nd rfl (by first | exact Or.inl rfl | exact Or.inr rfl)) (ss_one (s_if (tt_cmp (c_inA (by exact hu)) (z_var 3 (pv 3)) (z_var 2 (pv 2))) (ss_one (s_expr (z_app (z_var 6 (pv 6)) (a_cons z_str a_nil)))) (ss_one (s_if (tt_cmp (c_eq hu) (z_ixA hu (z_var 3 (pv 3)) z_int) z_str) (ss_one (s_expr (z_app (z_var 6 (pv 6)) (a_cons (z_callK (okK_law_charge T) (hr.mono (by decide)) T.g_law_charge T.F_law_charge.kp T.b_law_charge (passAt (takes_of rfl rfl rfl rfl)) (a_cons (z_var 4 (pv 4)) (a_cons (z_var 5 (pv 5)) (a_cons (z_var 3 (pv 3)) a_nil)))) a_nil)))) (ss_one (s_if (tt_cmp (c_eq hu) (z_ixA hu (z_var 3 (pv 3)) z_int) z_str) (ss_one (s_expr (z_app (z_var 6 (pv 6)) (a_cons (z_callK (okK_law_pardon T) (hr.mono (by decide)) T.g_law_pardon T.F_law_pardon.kp T.b_law_pardon (passAt (takes_of rfl rfl rfl rfl)) (a_cons (z_ixA hu (z_var 0 (pv 0)) z_int) (a_cons (z_var 4 (pv 4)) (a_cons (z_var 5 (pv 5)) (a_cons (z_var 3 (pv 3)) a_nil))))) a_nil)))) (ss_one (s_if (tt_cmp (c_ninA (by exact hu)) (z_ixA hu (z_var 3 (pv 3)) z_int) (z_var 4 (pv 4))) (ss_one (s_expr (z_app (z_var 6 (pv 6)) (a_cons z_str a_nil)))) (ss_one (s_if (tt_cmp (c_ne hu) (z_ixA hu (z_var 3 (pv 3)) z_int) z_str) (ss_one (s_expr (z_app (z_var 6 (pv 6)) (a_cons (z_callK (okK_law_done T) (hr.mono (by decide)) T.g_law_done T.F_law_done.kp T.b_law_done (passAt (takes_of rfl rfl rfl rfl)) (a_cons (z_var 0 (pv 0)) (a_cons (z_var 4 (pv 4)) (a_cons (z_var 7 (pv 7)) (a_cons (z_var 3 (pv 3)) a_nil))))) a_nil)))) (ss_one (s_if (t_inVals hu (z_var 3 (pv 3)) (z_var 2 (pv 2))) (ss_one (s_expr (z_app (z_var 6 (pv 6)) (a_cons z_str a_nil)))) (ss_one (s_if (tt_cmp (c_ninA (by exact hu)) (z_ixA hu (z_ixA hu (z_var 4 (pv 4)) (z_ixA hu (z_var 3 (pv 3)) z_int)) z_str) (z_tup (a_cons z_str (a_cons z_str a_nil)))) (ss_one (s_expr (z_app (z_var 6 (pv 6)) (a_cons z_str a_nil)))) (ss_one (s_ret (z_tup (a_cons (z_var 6 (pv 6)) (a_cons (z_var 4 (pv 4)) (a_cons (z_var 7 (pv 7)) (a_cons (z_tup (a_cons (z_var 3 (pv 3)) (a_cons (z_ixA hu (z_ixA hu (z_var 4 (pv 4)) (z_ixA hu (z_var 3 (pv 3)) z_int)) z_str) a_nil))) a_nil))))))))))))))))))))))
  (ss_one (s_ret (z_tup (a_cons (z_var 6 (pv 6)) (a_cons (z_var 4 (pv 4)) (a_cons (z_var 7 (pv 7)) (a_cons z_non a_nil)))))))))
abbrev N_law_read : List Str := ["_law_bench", "_law_papers", "_law_struck", "_law_words", "_law_causes", "_law_lost", "_law_strike"]
theorem sc_law_read : FnScope N_law_read ["_law_bench", "_law_papers"] (defScope (top 58)) := ⟨rfl, rfl, rfl, by decide +kernel, rfl, by decide +kernel, by decide +kernel⟩
theorem okK_law_read (T : Tx w.params K mg) : FnK P w K mg base 6 T.a_law_read T.fd_law_read ["_law_bench", "_law_papers"] m_law_read := by
  refine fnK_of (N := N_law_read) (k := 5) T.F_law_read sc_law_read rfl fun cdv A fs s H E hr => ?_
  have hu := un100 hr
  have sc := sc_law_read
  exact (ss_cons (s_set (i := 2) sc.nd rfl (by first | exact Or.inl rfl | exact Or.inr rfl) z_dictT)
  (ss_one (s_while (passes_of rfl) (t_tru z_bl) (ss_cons (s_tup (is := [3, 4, 5, 6]) (z_callK (okK_law_pass T) (hr.mono (by decide)) T.g_law_pass T.F_law_pass.kp T.b_law_pass (passAt (takes_of rfl rfl rfl rfl)) (a_cons (z_var 0 (pv 0)) (a_cons (z_var 1 (pv 1)) (a_cons (z_var 2 (pv 2)) a_nil)))) (pg_tup rfl (pgs_cons (pg_name (i := 3) sc.nd rfl (by first | exact Or.inl rfl | exact Or.inr rfl)) (pgs_cons (pg_name (i := 4) sc.nd rfl (by first | exact Or.inl rfl | exact Or.inr rfl)) (pgs_cons (pg_name (i := 5) sc.nd rfl (by first | exact Or.inl rfl | exact Or.inr rfl)) (pgs_cons (pg_name (i := 6) sc.nd rfl (by first | exact Or.inl rfl | exact Or.inr rfl)) pgs_nil))))))
  (ss_cons (s_if (tt_cmp c_is (z_var 6 (pv 6)) z_non) (ss_one (s_ret (z_tup (a_cons (z_var 3 (pv 3)) (a_cons (z_var 4 (pv 4)) (a_cons (z_var 5 (pv 5)) (a_cons (z_var 2 (pv 2)) a_nil))))))) ss_nil)
  (ss_one (s_subA hu (z_var 2 (pv 2)) (z_ixA hu (z_var 6 (pv 6)) z_int) (z_ixA hu (z_var 6 (pv 6)) z_int))))))))
theorem ok_law_read (T : Tx w.params K mg) : FnG P w K mg base 6 T.a_law_read T.fd_law_read ["_law_bench", "_law_papers"] m_law_read := (okK_law_read T).toG
abbrev N_law_made : List Str := ["_law_pen_here", "_law_again", "_law_sittings", "_law_bench", "_law_papers", "_law_days", "_law_words", "_law_turn", "_law_first", "_law_many", "_law_town", "_law_hold", "_law_behind", "_law_day", "_law_word", "_law_cause_here", "_law_flag"]
theorem sc_law_made : FnScope N_law_made ["_law_pen_here"] (defScope (top 59)) := ⟨rfl, rfl, rfl, by decide +kernel, rfl, by decide +kernel, by decide +kernel⟩
theorem okK_law_made (T : Tx w.params K mg) : FnK P w K mg base 2 T.a_law_made T.fd_law_made ["_law_pen_here"] m_law_made := by
  refine fnK_of (N := N_law_made) (k := 1) T.F_law_made sc_law_made rfl fun cdv A fs s H E hr => ?_
  have hu := un100 hr
  have sc := sc_law_made
  exact (ss_cons (s_parA (i := 8) (j := 9) rfl sc.nd rfl rfl (by decide) rfl rfl (a_cons (z_add z_int (z_callK (okK_law_draw T) (hr.mono (by decide)) T.g_law_draw T.F_law_draw.kp T.b_law_draw (passAt (takes_of rfl rfl rfl rfl)) (a_cons (z_var 0 (pv 0)) (a_cons z_int a_nil)))) (a_cons (z_add z_int (z_callK (okK_law_draw T) (hr.mono (by decide)) T.g_law_draw T.F_law_draw.kp T.b_law_draw (passAt (takes_of rfl rfl rfl rfl)) (a_cons (z_var 0 (pv 0)) (a_cons z_int a_nil)))) a_nil)) (by rfl))
  (ss_cons (s_parA (i := 10) (j := 11) rfl sc.nd rfl rfl (by decide) rfl rfl (a_cons (z_callK (okK_law_draw T) (hr.mono (by decide)) T.g_law_draw T.F_law_draw.kp T.b_law_draw (passAt (takes_of rfl rfl rfl rfl)) (a_cons (z_var 0 (pv 0)) (a_cons z_int a_nil))) (a_cons (z_add z_int (z_callK (okK_law_draw T) (hr.mono (by decide)) T.g_law_draw T.F_law_draw.kp T.b_law_draw (passAt (takes_of rfl rfl rfl rfl)) (a_cons (z_var 0 (pv 0)) (a_cons z_int a_nil)))) a_nil)) (by rfl))
  (ss_cons (s_set (i := 1) sc.nd rfl (by first | exact Or.inl rfl | exact Or.inr rfl) (z_add (z_add (z_add (z_var 8 (pv 8)) (z_var 9 (pv 9))) z_int) (z_callK (okK_law_draw T) (hr.mono (by decide)) T.g_law_draw T.F_law_draw.kp T.b_law_draw (passAt (takes_of rfl rfl rfl rfl)) (a_cons (z_var 0 (pv 0)) (a_cons z_int a_nil)))))
  (ss_cons (s_set (i := 2) sc.nd rfl (by first | exact Or.inl rfl | exact Or.inr rfl) (z_tup (a_cons (z_tup (a_cons (z_var 8 (pv 8)) (a_cons (z_add (z_var 8 (pv 8)) (z_var 9 (pv 9))) (a_cons (z_var 10 (pv 10)) a_nil)))) (a_cons (z_tup (a_cons (z_var 1 (pv 1)) (a_cons (z_add (z_var 1 (pv 1)) (z_var 9 (pv 9))) (a_cons (z_var 10 (pv 10)) a_nil)))) (a_cons (z_tup (a_cons (z_add (z_add (z_var 1 (pv 1)) (z_var 9 (pv 9))) z_int) (a_cons z_int (a_cons (z_mod (z_add (z_var 10 (pv 10)) z_int) z_int) a_nil)))) a_nil)))))
  (ss_cons (s_set (i := 3) sc.nd rfl (by first | exact Or.inl rfl | exact Or.inr rfl) (z_tup (a_cons (z_var 2 (pv 2)) (a_cons (z_var 11 (pv 11)) (a_cons (z_callK (okK_law_draw T) (hr.mono (by decide)) T.g_law_draw T.F_law_draw.kp T.b_law_draw (passAt (takes_of rfl rfl rfl rfl)) (a_cons (z_var 0 (pv 0)) (a_cons z_int a_nil))) (a_cons (z_add z_int (z_callK (okK_law_draw T) (hr.mono (by decide)) T.g_law_draw T.F_law_draw.kp T.b_law_draw (passAt (takes_of rfl rfl rfl rfl)) (a_cons (z_var 0 (pv 0)) (a_cons z_int a_nil)))) a_nil))))))
  (ss_cons (s_set (i := 4) sc.nd rfl (by first | exact Or.inl rfl | exact Or.inr rfl) (z_lstN (a_cons (z_tup (a_cons z_int (a_cons z_str (a_cons z_int (a_cons z_int (a_cons z_int (a_cons (z_var 10 (pv 10)) a_nil))))))) (a_cons (z_tup (a_cons z_int (a_cons z_str (a_cons z_int (a_cons (z_ixA hu (z_lst (a_cons z_int (a_cons z_int a_nil))) (z_callK (okK_law_draw T) (hr.mono (by decide)) T.g_law_draw T.F_law_draw.kp T.b_law_draw (passAt (takes_of rfl rfl rfl rfl)) (a_cons (z_var 0 (pv 0)) (a_cons z_int a_nil)))) (a_cons z_int (a_cons (z_var 10 (pv 10)) a_nil))))))) (a_cons (z_tup (a_cons z_int (a_cons z_str (a_cons z_int a_nil)))) a_nil)))))
  (ss_cons (s_set (i := 4) sc.nd rfl (by first | exact Or.inl rfl | exact Or.inr rfl) (z_addN (z_var 4 (pv 4)) (z_lst (a_cons (z_tup (a_cons (z_var 8 (pv 8)) (a_cons z_str (a_cons z_int (a_cons z_int a_nil))))) (a_cons (z_tup (a_cons (z_var 8 (pv 8)) (a_cons z_str (a_cons z_int (a_cons z_int a_nil))))) (a_cons (z_tup (a_cons z_int (a_cons z_str (a_cons z_int a_nil)))) (a_cons (z_tup (a_cons z_int (a_cons z_str (a_cons z_int (a_cons z_int a_nil))))) a_nil)))))))
  (ss_cons (s_set (i := 5) sc.nd rfl (by first | exact Or.inl rfl | exact Or.inr rfl) (z_lst (a_cons z_int (a_cons (z_var 8 (pv 8)) (a_cons (z_add (z_var 8 (pv 8)) z_int) (a_cons (z_add (z_var 8 (pv 8)) (z_var 9 (pv 9))) (a_cons (z_add (z_add (z_var 8 (pv 8)) (z_var 9 (pv 9))) z_int) (a_cons (z_var 1 (pv 1)) (a_cons (z_add (z_var 1 (pv 1)) z_int) (a_cons (z_add (z_add (z_var 1 (pv 1)) (z_var 9 (pv 9))) z_int) (a_cons z_int a_nil)))))))))))
  (ss_cons (s_set (i := 6) sc.nd rfl (by first | exact Or.inl rfl | exact Or.inr rfl) (z_lst (a_cons z_str (a_cons z_str (a_cons z_str (a_cons z_str (a_cons z_str (a_cons z_str (a_cons z_str (a_cons z_str (a_cons z_str (a_cons z_str a_nil))))))))))))
  (ss_cons (s_for (g := (.nm 7)) (passes_of rfl) rfl (i_range1 T.n_range (a_cons (z_add z_int (z_callK (okK_law_draw T) (hr.mono (by decide)) T.g_law_draw T.F_law_draw.kp T.b_law_draw (passAt (takes_of rfl rfl rfl rfl)) (a_cons (z_var 0 (pv 0)) (a_cons z_int a_nil)))) a_nil)) (pg_name (i := 7) sc.nd rfl (by first | exact Or.inl rfl | exact Or.inr rfl)) (ss_cons (s_parA (i := 13) (j := 14) rfl sc.nd rfl rfl (by decide) rfl rfl (a_cons (z_ixA hu (z_var 5 (pv 5)) (z_callK (okK_law_draw T) (hr.mono (by decide)) T.g_law_draw T.F_law_draw.kp T.b_law_draw (passAt (takes_of rfl rfl rfl rfl)) (a_cons (z_var 0 (pv 0)) (a_cons z_int a_nil)))) (a_cons (z_ixA hu (z_var 6 (pv 6)) (z_callK (okK_law_draw T) (hr.mono (by decide)) T.g_law_draw T.F_law_draw.kp T.b_law_draw (passAt (takes_of rfl rfl rfl rfl)) (a_cons (z_var 0 (pv 0)) (a_cons z_int a_nil)))) a_nil)) (by rfl))
  (ss_cons (s_parA (i := 15) (j := 16) rfl sc.nd rfl rfl (by decide) rfl rfl (a_cons (z_callK (okK_law_draw T) (hr.mono (by decide)) T.g_law_draw T.F_law_draw.kp T.b_law_draw (passAt (takes_of rfl rfl rfl rfl)) (a_cons (z_var 0 (pv 0)) (a_cons z_int a_nil))) (a_cons (z_callK (okK_law_draw T) (hr.mono (by decide)) T.g_law_draw T.F_law_draw.kp T.b_law_draw (passAt (takes_of rfl rfl rfl rfl)) (a_cons (z_var 0 (pv 0)) (a_cons z_int a_nil))) a_nil)) (by rfl))
  (ss_cons (s_set (i := 12) sc.nd rfl (by first | exact Or.inl rfl | exact Or.inr rfl) (z_dispN (ps := [((mC (.str "judge")), (mTup (aCons (mVar 15) (aCons (mVar 16) aNil)))), ((mC (.str "bill")), (mTup (aCons (mVar 15) (aCons (mVar 16) aNil)))), ((mC (.str "pledge")), (mTup (aCons (mVar 15) (aCons (mCall m_law_draw (aCons (mVar 0) (aCons (mC (.int 3)) aNil))) aNil))))]) (pps1 z_str (z_tup (a_cons (z_var 15 (pv 15)) (a_cons (z_var 16 (pv 16)) a_nil))) (pps1 z_str (z_tup (a_cons (z_var 15 (pv 15)) (a_cons (z_var 16 (pv 16)) a_nil))) (pps1 z_str (z_tup (a_cons (z_var 15 (pv 15)) (a_cons (z_callK (okK_law_draw T) (hr.mono (by decide)) T.g_law_draw T.F_law_draw.kp T.b_law_draw (passAt (takes_of rfl rfl rfl rfl)) (a_cons (z_var 0 (pv 0)) (a_cons z_int a_nil))) a_nil))) pps0)))))
  (ss_cons (s_expr (z_m1 PySem.F.plainAttrs_dict PySem.F.slot_dict_update PySem.F.type_dict_update mt_update dUpdate_ok (z_var 12 (pv 12)) (a_cons (z_disp (ps := [((mC (.str "move")), (mTup (aCons (mVar 15) (aCons (mBin dMod (mBin dAdd (mVar 10) (mCall m_law_draw (aCons (mVar 0) (aCons (mC (.int 2)) aNil)))) (mC (.int 4))) aNil)))), ((mC (.str "charge")), (mTup (aCons (mC (.int 2)) (aCons (mVar 16) (aCons (mC (.int 0)) (aCons (mVar 10) aNil)))))), ((mC (.str "pardon")), (mTup (aCons (mC (.int 1)) (aCons (mC (.int 0)) aNil))))]) (pps1 z_str (z_tup (a_cons (z_var 15 (pv 15)) (a_cons (z_mod (z_add (z_var 10 (pv 10)) (z_callK (okK_law_draw T) (hr.mono (by decide)) T.g_law_draw T.F_law_draw.kp T.b_law_draw (passAt (takes_of rfl rfl rfl rfl)) (a_cons (z_var 0 (pv 0)) (a_cons z_int a_nil)))) z_int) a_nil))) (pps1 z_str (z_tup (a_cons z_int (a_cons (z_var 16 (pv 16)) (a_cons z_int (a_cons (z_var 10 (pv 10)) a_nil))))) (pps1 z_str (z_tup (a_cons z_int (a_cons z_int a_nil))) pps0)))) a_nil)))
  (ss_one (s_expr (z_app (z_var 4 (pv 4)) (a_cons (z_add (z_tup (a_cons (z_var 13 (pv 13)) (a_cons (z_var 14 (pv 14)) a_nil))) (z_m1 PySem.F.plainAttrs_dict PySem.F.slot_dict_get PySem.F.type_dict_get (mt_get2 hu) dGet2_ok (z_var 12 (pv 12)) (a_cons (z_var 14 (pv 14)) (a_cons (z_tup (a_cons (z_var 15 (pv 15)) a_nil)) a_nil)))) a_nil)))))))))
  (ss_one (s_ret (z_tup (a_cons (z_var 3 (pv 3)) (a_cons (z_typ T.n_tuple call_tuple_of dTuple_ok PyProof.Rows.boot_tuple (a_cons (z_sortRows hu T.n_sorted T.n_set (z_var 4 (pv 4))) a_nil)) a_nil)))))))))))))))
theorem ok_law_made (T : Tx w.params K mg) : FnG P w K mg base 2 T.a_law_made T.fd_law_made ["_law_pen_here"] m_law_made := (okK_law_made T).toG
abbrev N_law : List Str := ["_law_script", "_law_cell_here", "_law_pen_here", "_law_turn", "_law_paper", "_law_bench", "_law_roll", "_law_less"]
theorem sc_law : FnScope N_law ["_law_script"] (defScope (top 60)) := ⟨rfl, rfl, rfl, by decide +kernel, rfl, by decide +kernel, by decide +kernel⟩
theorem ok_law (T : Tx w.params K mg) : FnG P w K mg base 10 T.a_law T.fd_law ["_law_script"] m_law := by
  refine fnG_of (N := N_law) (k := 9) T.F_law sc_law rfl fun cdv A fs s H E hr hgd => ?_
  have hu := un100 hr
  have sc := sc_law
  exact (ss_cons (s_for (g := (.nm 1)) (passes_of rfl) rfl (i_seq (z_add (z_lst (a_cons (z_call (ok_law_cell T) (hr.mono (by decide)) hgd T.g_law_cell T.F_law_cell.kp T.b_law_cell (passAt (takes_of rfl rfl rfl rfl)) (a_cons (z_var 0 (pv 0)) (a_cons z_int a_nil))) a_nil)) (z_sl (z_var 0 (pv 0)) (o_some z_int) (o_some z_int)))) (pg_name (i := 1) sc.nd rfl (by first | exact Or.inl rfl | exact Or.inr rfl)) (ss_cons (s_set (i := 2) sc.nd rfl (by first | exact Or.inl rfl | exact Or.inr rfl) (z_call (ok_law_pen T) (hr.mono (by decide)) hgd T.g_law_pen T.F_law_pen.kp T.b_law_pen (passAt (takes_of rfl rfl rfl rfl)) (a_cons (z_var 1 (pv 1)) a_nil)))
  (ss_one (s_for (g := (.nm 3)) (passes_of rfl) rfl (i_range1 T.n_range (a_cons z_int a_nil)) (pg_name (i := 3) sc.nd rfl (by first | exact Or.inl rfl | exact Or.inr rfl)) (ss_cons (s_tup (is := [5, 6]) (z_call (ok_law_made T) (hr.mono (by decide)) hgd T.g_law_made T.F_law_made.kp T.b_law_made (passAt (takes_of rfl rfl rfl rfl)) (a_cons (z_var 2 (pv 2)) a_nil)) (pg_tup rfl (pgs_cons (pg_name (i := 5) sc.nd rfl (by first | exact Or.inl rfl | exact Or.inr rfl)) (pgs_cons (pg_name (i := 6) sc.nd rfl (by first | exact Or.inl rfl | exact Or.inr rfl)) pgs_nil))))
  (ss_cons (s_if (tt_cmp (c_ne hu) (z_blt T.n_repr (call_reprP hu hgd) dRepr_ok PyProof.Rows.boot_repr (a_cons (z_call (ok_outcomes T) (hr.mono (by decide)) hgd T.g_outcomes T.F_outcomes.kp T.b_outcomes (passAt (takes_of rfl rfl rfl rfl)) (a_cons (z_var 5 (pv 5)) (a_cons (z_var 6 (pv 6)) a_nil))) a_nil)) (z_blt T.n_repr (call_reprP hu hgd) dRepr_ok PyProof.Rows.boot_repr (a_cons (z_ixA hu (z_call (ok_law_read T) (hr.mono (by decide)) hgd T.g_law_read T.F_law_read.kp T.b_law_read (passAt (takes_of rfl rfl rfl rfl)) (a_cons (z_var 5 (pv 5)) (a_cons (z_var 6 (pv 6)) a_nil))) z_int) a_nil))) (ss_one (s_ret z_bl)) ss_nil)
  (ss_one (s_for (g := (.nm 4)) (passes_of rfl) rfl (i_seq (z_var 6 (pv 6))) (pg_name (i := 4) sc.nd rfl (by first | exact Or.inl rfl | exact Or.inr rfl)) (ss_cons (s_set (i := 7) sc.nd rfl (by first | exact Or.inl rfl | exact Or.inr rfl) (z_call (ok_taken_back T) (hr.mono (by decide)) hgd T.g_taken_back T.F_taken_back.kp T.b_taken_back (passAt (takes_of rfl rfl rfl rfl)) (a_cons (z_var 6 (pv 6)) (a_cons (z_var 4 (pv 4)) a_nil))))
  (ss_one (s_if (tt_cmp (c_ne hu) (z_call (ok_outcomes T) (hr.mono (by decide)) hgd T.g_outcomes T.F_outcomes.kp T.b_outcomes (passAt (takes_of rfl rfl rfl rfl)) (a_cons (z_var 5 (pv 5)) (a_cons (z_var 7 (pv 7)) a_nil))) (z_ixA hu (z_call (ok_law_read T) (hr.mono (by decide)) hgd T.g_law_read T.F_law_read.kp T.b_law_read (passAt (takes_of rfl rfl rfl rfl)) (a_cons (z_var 5 (pv 5)) (a_cons (z_var 7 (pv 7)) a_nil))) z_int)) (ss_one (s_ret z_bl)) ss_nil)))))))))))
  (ss_one (s_ret z_bl)))
end
end Lk12

/-! k12L: the law is kept. -/
namespace Sp
open PySem L2 Z Lk12
variable {l : Nat} {S S' : Sto} {Q : Z.D → Sto → Prop} {b : Be} {ps : List Pa}
def wordsV : List Str := ["hold", "over", "judge", "pledge", "miss", "move", "aside", "bill", "charge", "pardon"]
def MInv (S : Sto) (l f : Nat) (v1 v2 v3 v8 v9 v11 : Option Z.D) (dy : List Int) (town : Int) (kk : Nat) (k : Nat) (τ : Tau) (S' : Sto) : Prop :=
  ∃ (x7 x12 x13 x14 x15 x16 : Option Z.D) (ps : List Pa), τ = [some (.loc l), v1, v2, v3, some (.loc f), some (.lst (dy.map Z.D.int)), some (.lst (wordsV.map Z.D.str)), x7, v8, v9, some (.int town), v11, x12, x13, x14, x15, x16] ∧ PF l S S' ∧ S'[f]? = some (.lst (ps.map Pa.D)) ∧ S.length ≤ f ∧ ps.length ≤ 7 + k ∧ ∀ p ∈ ps, okP p
theorem made1 (hp : Pen l S) (k : ∀ b ps S', OkBB b → Ro ps → PF l S S' → Q (.tup [b.D, .tup (ps.map Pa.D)]) S') : wpR (m_law_made [.loc l] S) Q := by
  have hlS : l < S.length := hp.lt
  unfold m_law_made
  rw [x_run, wpS_seq]
  refine ⟨rfl, ?_⟩
  simp [setAll, -wpS_seq]
  refine drawV hp (by decide) (by decide) fun r1 S1 a1 a2 f1 => ?_
  simp [setAll, -wpS_seq]
  refine drawV f1.pen (by decide) (by decide) fun r2 S2 b1 b2 f2 => ?_
  simp [-wpS_seq]
  rw [wpS_seq]
  simp [setAll, -wpS_seq]
  refine drawV f2.pen (by decide) (by decide) fun r3 S3 c1 c2 f3 => ?_
  refine drawV f3.pen (by decide) (by decide) fun r4 S4 d1 d2 f4 => ?_
  simp [-wpS_seq]
  rw [wpS_seq]
  simp [setAll, -wpS_seq]
  refine drawV f4.pen (by decide) (by decide) fun r5 S5 e1 e2 f5 => ?_
  simp [-wpS_seq]
  rw [wpS_seq]
  simp [-wpS_seq, hz]
  rw [wpS_seq]
  simp [-wpS_seq, hz]
  refine drawV f5.pen (by decide) (by decide) fun r6 S6 g1 g2 f6 => ?_
  refine drawV f6.pen (by decide) (by decide) fun r7 S7 h1 h2 f7 => ?_
  simp [-wpS_seq]
  rw [wpS_seq]
  simp [-wpS_seq, hz]
  refine drawV f7.pen (by decide) (by decide) fun r8 S8 i1 i2 f8 => ?_
  obtain ⟨v, hv, ev⟩ := pick (is := [0, 1]) i1 (by simpa using i2)
  simp only [List.map_cons, List.map_nil] at ev
  simp [ev, -wpS_seq]
  rw [wpS_seq]
  have F : PF l S S8 := (((((((f1.trans f2).trans f3).trans f4).trans f5).trans f6).trans f7).trans f8)
  have hS8 := F.len
  simp [dAddN, listD, hz, -wpS_seq]
  rw [wpS_seq]
  simp [-wpS_seq, hz]
  rw [wpS_seq]
  simp [-wpS_seq, hz]
  rw [wpS_seq]
  simp [-wpS_seq]
  have hp9 : Pen l (S8 ++ [C.lst (([.charge 0 0 0 0 r3, .charge 0 1 v 0 r3, .hold 0 0] : List Pa).map Pa.D), C.lst (([.charge 0 0 0 0 r3, .charge 0 1 v 0 r3, .hold 0 0, .bill (2 + r1) 0 1, .bill (2 + r1) 1 1, .hold 1 1, .pledge 1 0 2] : List Pa).map Pa.D)]) := (PF.app f8.pen).pen
  have F9 : PF l S (S8 ++ [C.lst (([.charge 0 0 0 0 r3, .charge 0 1 v 0 r3, .hold 0 0] : List Pa).map Pa.D), C.lst (([.charge 0 0 0 0 r3, .charge 0 1 v 0 r3, .hold 0 0, .bill (2 + r1) 0 1, .bill (2 + r1) 1 1, .hold 1 1, .pledge 1 0 2] : List Pa).map Pa.D)]) := F.trans (PF.app f8.pen)
  have hc9 : (S8 ++ [C.lst (([.charge 0 0 0 0 r3, .charge 0 1 v 0 r3, .hold 0 0] : List Pa).map Pa.D), C.lst (([.charge 0 0 0 0 r3, .charge 0 1 v 0 r3, .hold 0 0, .bill (2 + r1) 0 1, .bill (2 + r1) 1 1, .hold 1 1, .pledge 1 0 2] : List Pa).map Pa.D)])[S8.length + 1]? = some (.lst (([.charge 0 0 0 0 r3, .charge 0 1 v 0 r3, .hold 0 0, .bill (2 + r1) 0 1, .bill (2 + r1) 1 1, .hold 1 1, .pledge 1 0 2] : List Pa).map Pa.D)) := by
    rw [List.getElem?_append_right (by omega)]
    simp
  refine drawV hp9 (by decide) (by decide) fun r9 S9 j1 j2 f9 => ?_
  have hc9' := f9.at hc9 (by omega)
  simp [rng1 (4 + r9) (by omega), -wpS_seq]
  have hv01 : v = 0 ∨ v = 1 := by simpa using hv
  have ps0 : ∀ p ∈ ([.charge 0 0 0 0 r3, .charge 0 1 v 0 r3, .hold 0 0, .bill (2 + r1) 0 1, .bill (2 + r1) 1 1, .hold 1 1, .pledge 1 0 2] : List Pa), okP p := fun p hp => by
    simp only [List.mem_cons, List.not_mem_nil, or_false] at hp
    rcases hp with rfl | rfl | rfl | rfl | rfl | rfl | rfl <;> simp only [okP] <;> omega
  refine for_rng (4 + r9).toNat (MInv S l (S8.length + 1) _ _ _ _ _ _ [1, 2 + r1, 2 + r1 + 1, 2 + r1 + (2 + r2), 2 + r1 + (2 + r2) + 1, 2 + r1 + (2 + r2) + 2 + r5, 2 + r1 + (2 + r2) + 2 + r5 + 1, 2 + r1 + (2 + r2) + 2 + r5 + (2 + r2) + 2, 49] r3 (4 + r9).toNat) ?_ ?_ _ _ ⟨none, none, none, none, none, none, _, rfl, F9.trans f9, hc9', by omega, by simp, ps0⟩
  · rintro j τ S10 hj ⟨x7, x12, x13, x14, x15, x16, qs, rfl, G, g1c, g2c, g3c, g4c⟩
    refine ⟨_, rfl, ?_⟩
    rw [wpS_seq]
    simp [setAll, -wpS_seq]
    refine drawV G.pen (by decide) (by decide) fun q1 T1 u1 u2 t1 => ?_
    obtain ⟨dd, hdd, ed⟩ := pick (is := [1, 2 + r1, 2 + r1 + 1, 2 + r1 + (2 + r2), 2 + r1 + (2 + r2) + 1, 2 + r1 + (2 + r2) + 2 + r5, 2 + r1 + (2 + r2) + 2 + r5 + 1, 2 + r1 + (2 + r2) + 2 + r5 + (2 + r2) + 2, 49]) u1 (by simpa using u2)
    have hdr : 0 ≤ dd ∧ dd ≤ 60 := by
      simp only [List.mem_cons, List.not_mem_nil, or_false] at hdd
      omega
    simp only [List.map_cons, List.map_nil] at ed
    simp [ed, -wpS_seq]
    refine drawV t1.pen (by decide) (by decide) fun q2 T2 w1 w2 t2 => ?_
    obtain ⟨w, hw, ew⟩ := pickS (ws := wordsV) w1 (by have : wordsV.length = 10 := rfl; omega)
    simp [ew, -wpS_seq]
    rw [wpS_seq]
    simp [setAll, -wpS_seq]
    refine drawV t2.pen (by decide) (by decide) fun q3 T3 y1 y2 t3 => ?_
    refine drawV t3.pen (by decide) (by decide) fun q4 T4 z1 z2 t4 => ?_
    rw [wpS_seq]
    simp [hz, -wpS_seq]
    refine drawV t4.pen (by decide) (by decide) fun q5 T5 m1 m2 t5 => ?_
    refine ⟨⟨by simp, by simp [ofString_inj]⟩, ?_⟩
    have hlT : l < T5.length := t5.pen.lt
    have htyD : ∀ kvs : List (Key × Z.D), isTy "dict" (.loc T5.length) (T5 ++ [.dK false kvs]) = true := fun kvs => by simp [isTy]
    rw [wpS_seq]
    simp [htyD, -wpS_seq]
    refine drawV (PF.app t5.pen).pen (by decide) (by decide) fun q6 T6 m3 m4 t6 => ?_
    have hd6 : T6[T5.length]? = some (.dK false [((.inr "judge" : Key), Z.D.tup [.int q3, .int q4]), (.inr "bill", .tup [.int q3, .int q4]), (.inr "pledge", .tup [.int q3, .int q5])]) := t6.at app_new (by omega)
    have hm : mergeG [((.inr "judge" : Key), Z.D.tup [.int q3, .int q4]), (.inr "bill", .tup [.int q3, .int q4]), (.inr "pledge", .tup [.int q3, .int q5])] [(.inr "move", .tup [.int q3, .int ((r3 + q6) % 4)]), (.inr "charge", .tup [.int 2, .int q4, .int 0, .int r3]), (.inr "pardon", .tup [.int 1, .int 0])] = [((.inr "judge" : Key), Z.D.tup [.int q3, .int q4]), (.inr "bill", .tup [.int q3, .int q4]), (.inr "pledge", .tup [.int q3, .int q5]), (.inr "move", .tup [.int q3, .int ((r3 + q6) % 4)]), (.inr "charge", .tup [.int 2, .int q4, .int 0, .int r3]), (.inr "pardon", .tup [.int 1, .int 0])] := by
      simp [mergeG, putG, ofString_inj]
    have hup : dUpdate (.loc T5.length) [.dct [.inr "move", .inr "charge", .inr "pardon"] [.tup [.int q3, .int ((r3 + q6) % 4)], .tup [.int 2, .int q4, .int 0, .int r3], .tup [.int 1, .int 0]]] T6 = .ok .non (T6.set T5.length (.dK false [((.inr "judge" : Key), Z.D.tup [.int q3, .int q4]), (.inr "bill", .tup [.int q3, .int q4]), (.inr "pledge", .tup [.int q3, .int q5]), (.inr "move", .tup [.int q3, .int ((r3 + q6) % 4)]), (.inr "charge", .tup [.int 2, .int q4, .int 0, .int r3]), (.inr "pardon", .tup [.int 1, .int 0])])) := by
      unfold dUpdate
      simp only [hd6]
      refine wp_eq ?_
      simp only [List.zip_cons_cons, List.zip_nil_right, hm]
      simp [hz]
    have hget : ∃ (rs : List Z.D) (p : Pa), (valG [((.inr "judge" : Key), Z.D.tup [.int q3, .int q4]), (.inr "bill", .tup [.int q3, .int q4]), (.inr "pledge", .tup [.int q3, .int q5]), (.inr "move", .tup [.int q3, .int ((r3 + q6) % 4)]), (.inr "charge", .tup [.int 2, .int q4, .int 0, .int r3]), (.inr "pardon", .tup [.int 1, .int 0])] (.inr w)).getD (.tup [.int q3]) = .tup rs ∧ p.D = .tup (.int dd :: .str w :: rs) ∧ okP p ∧ rs.length ≤ 4 := by
      simp only [wordsV, List.mem_cons, List.not_mem_nil, or_false] at hw
      rcases hw with rfl | rfl | rfl | rfl | rfl | rfl | rfl | rfl | rfl | rfl
      · exact ⟨[.int q3], .hold dd q3, by simp [valG, ofString_inj], rfl, by simp only [okP]; omega, by simp⟩
      · exact ⟨[.int q3], .over dd q3, by simp [valG, ofString_inj], rfl, by simp only [okP]; omega, by simp⟩
      · exact ⟨[.int q3, .int q4], .judge dd q3 q4, by simp [valG, ofString_inj], rfl, by simp only [okP]; omega, by simp⟩
      · exact ⟨[.int q3, .int q5], .pledge dd q3 q5, by simp [valG, ofString_inj], rfl, by simp only [okP]; omega, by simp⟩
      · exact ⟨[.int q3], .miss dd q3, by simp [valG, ofString_inj], rfl, by simp only [okP]; omega, by simp⟩
      · exact ⟨[.int q3, .int ((r3 + q6) % 4)], .move dd q3 ((r3 + q6) % 4), by simp [valG, ofString_inj], rfl, by simp only [okP]; omega, by simp⟩
      · exact ⟨[.int q3], .aside dd q3, by simp [valG, ofString_inj], rfl, by simp only [okP]; omega, by simp⟩
      · exact ⟨[.int q3, .int q4], .bill dd q3 q4, by simp [valG, ofString_inj], rfl, by simp only [okP]; omega, by simp⟩
      · exact ⟨[.int 2, .int q4, .int 0, .int r3], .charge dd 2 q4 0 r3, by simp [valG, ofString_inj], rfl, by simp only [okP]; omega, by simp⟩
      · exact ⟨[.int 1, .int 0], .pardon dd 1 0, by simp [valG, ofString_inj], rfl, by simp only [okP]; omega, by simp⟩
    obtain ⟨rs, p, hg, hpD, hpo, hrl⟩ := hget
    simp [hz, hup, -wpS_seq]
    refine ⟨⟨by simp, by simp [ofString_inj]⟩, ?_⟩
    have GG : PF l S T6 := ((((((G.trans t1).trans t2).trans t3).trans t4).trans t5).trans (PF.app t5.pen)).trans t6
    have G7 := GG.set (k := T5.length) (c := .dK false [((.inr "judge" : Key), Z.D.tup [.int q3, .int q4]), (.inr "bill", .tup [.int q3, .int q4]), (.inr "pledge", .tup [.int q3, .int q5]), (.inr "move", .tup [.int q3, .int ((r3 + q6) % 4)]), (.inr "charge", .tup [.int 2, .int q4, .int 0, .int r3]), (.inr "pardon", .tup [.int 1, .int 0])]) (by have := G.len; have := t1.len; have := t2.len; have := t3.len; have := t4.len; have := t5.len; omega) (by omega)
    have hfl : S8.length + 1 < T5.length := by have := lt_of_at g1c; have := t1.len; have := t2.len; have := t3.len; have := t4.len; have := t5.len; omega
    have g8 : T6[S8.length + 1]? = some (.lst (qs.map Pa.D)) := t6.at (app_at (t5.at (t4.at (t3.at (t2.at (t1.at g1c (by omega)) (by omega)) (by omega)) (by omega)) (by omega))) (by omega)
    have g9 := set_ne (c := .dK false [((.inr "judge" : Key), Z.D.tup [.int q3, .int q4]), (.inr "bill", .tup [.int q3, .int q4]), (.inr "pledge", .tup [.int q3, .int q5]), (.inr "move", .tup [.int q3, .int ((r3 + q6) % 4)]), (.inr "charge", .tup [.int 2, .int q4, .int 0, .int r3]), (.inr "pardon", .tup [.int 1, .int 0])]) g8 (show T5.length ≠ S8.length + 1 by omega)
    have hd7 : (T6.set T5.length (.dK false [((.inr "judge" : Key), Z.D.tup [.int q3, .int q4]), (.inr "bill", .tup [.int q3, .int q4]), (.inr "pledge", .tup [.int q3, .int q5]), (.inr "move", .tup [.int q3, .int ((r3 + q6) % 4)]), (.inr "charge", .tup [.int 2, .int q4, .int 0, .int r3]), (.inr "pardon", .tup [.int 1, .int 0])]))[T5.length]? = some (.dK false [((.inr "judge" : Key), Z.D.tup [.int q3, .int q4]), (.inr "bill", .tup [.int q3, .int q4]), (.inr "pledge", .tup [.int q3, .int q5]), (.inr "move", .tup [.int q3, .int ((r3 + q6) % 4)]), (.inr "charge", .tup [.int 2, .int q4, .int 0, .int r3]), (.inr "pardon", .tup [.int 1, .int 0])]) := at_set hd6
    generalize (T6.set T5.length (.dK false [((.inr "judge" : Key), Z.D.tup [.int q3, .int q4]), (.inr "bill", .tup [.int q3, .int q4]), (.inr "pledge", .tup [.int q3, .int q5]), (.inr "move", .tup [.int q3, .int ((r3 + q6) % 4)]), (.inr "charge", .tup [.int 2, .int q4, .int 0, .int r3]), (.inr "pardon", .tup [.int 1, .int 0])])) = T7 at *
    generalize [((.inr "judge" : Key), Z.D.tup [.int q3, .int q4]), (.inr "bill", .tup [.int q3, .int q4]), (.inr "pledge", .tup [.int q3, .int q5]), (.inr "move", .tup [.int q3, .int ((r3 + q6) % 4)]), (.inr "charge", .tup [.int 2, .int q4, .int 0, .int r3]), (.inr "pardon", .tup [.int 1, .int 0])] = kv6 at *
    have hlook : dLook (.loc T5.length) (.str w) T7 = some (valG kv6 (.inr w)) := by simp [dLook, hd7, kOf]
    have hty7 : isTy "dict" (.loc T5.length) T7 = true := by simp [isTy, hd7]
    have ea := app_list (y := p.D) g9 (by rw [List.length_map]; omega)
    rw [hpD] at ea
    have z1 : 2 + rs.length ≤ 16777216 := by omega
    simp [isTy_list g9, hz, hty7, hlook, hg, z1, ea]
    refine ⟨_, _, _, _, _, _, qs ++ [p], rfl, G7.set (by omega) (by omega), ?_, g2c, by simp; omega, ?_⟩
    · rw [at_set g9]; simp [hpD]
    · intro q hq
      rcases List.mem_append.mp hq with hq | hq
      · exact g4c q hq
      · simp only [List.mem_singleton] at hq; subst hq; exact hpo
  · rintro τ S10 ⟨x7, x12, x13, x14, x15, x16, qs, rfl, G, g1c, g2c, g3c, g4c⟩
    have e := sortRowsP (d := .loc (S8.length + 1)) (ps := qs) (S := S10) (by simp [seqR, listR, g1c]) (by omega)
    have hro := sortP_ro g4c (by omega)
    simp [e, hz]
    exact k ⟨[(2 + r1, 2 + r1 + (2 + r2), r3), (2 + r1 + (2 + r2) + 2 + r5, 2 + r1 + (2 + r2) + 2 + r5 + (2 + r2), r3), (2 + r1 + (2 + r2) + 2 + r5 + (2 + r2) + 3, 50, (r3 + 1) % 4)], 1 + r4, r6, 1 + r7⟩ _ S10 { hold := by simp only; omega, puts := by simp only; omega, pled := by simp only; omega, ts := fun t ht => by simp only [List.mem_cons, List.not_mem_nil, or_false] at ht; rcases ht with rfl | rfl | rfl <;> simp only <;> omega, l1 := by simp, l8 := by simp, ch := by simp [adjT]; omega } hro G
/-! ### what outcomes says, and the law's own reading -/
theorem both_read (hB : OkBB b) (hR : Ro ps) (S : Sto) : ∃ (S1 S2 : Sto) (l1 : Nat) (c0 r : Nat), Pg.m_outcomes [b.D, .tup (ps.map Pa.D)] S = .ok (.loc l1) S1 ∧ V1.m_law_read [b.D, .tup (ps.map Pa.D)] S1 = .ok (.tup [.loc (c0 + 2), .loc c0, .loc (c0 + 3), .loc r]) S2 ∧ Fr S.length S S2 ∧ S1[l1]? = some (.lst ((reading b ps).words.map .str)) ∧ S2[l1]? = some (.lst ((reading b ps).words.map .str)) ∧ S2[c0 + 2]? = some (.lst ((reading b ps).words.map .str)) := by
  obtain ⟨S1, l1, e1, f1, g1⟩ := outcomes_ok hB hR S
  have h8 := hB.l8
  obtain ⟨S2, c0, ℓ, e2, f2, -, R2, -⟩ := read1_ok hB.toOkB (oneSit hB) (by omega) hR.rl (pv := .tup (ps.map Pa.D)) (fun S => rfl) S1
  exact ⟨S1, S2, l1, c0, _, e1, e2, f1.trans (f2.mono f1.1), g1, f2.at (lt_of_at g1) g1, R2.wo⟩
def X0 (ns : Z.D) (τ : Tau) : Prop := ∃ (a1 a2 a3 a4 a5 a6 a7 : Option Z.D), τ = [some ns, a1, a2, a3, a4, a5, a6, a7]
def X1 (ns c : Z.D) (l : Nat) (k : Nat) (τ : Tau) (S : Sto) : Prop := ∃ (a3 a4 a5 a6 a7 : Option Z.D), τ = [some ns, some c, some (.loc l), a3, a4, a5, a6, a7] ∧ Pen l S
def X2 (ns c : Z.D) (l : Nat) (j bd pd : Z.D) (ps : List Pa) (es : List Z.D) (τ : Tau) (S : Sto) : Prop := (∀ d ∈ es, ∃ p ∈ ps, d = Pa.D p) ∧ ∃ (a4 a7 : Option Z.D), τ = [some ns, some c, some (.loc l), some j, a4, some bd, some pd, a7] ∧ Pen l S
theorem law_wp (ns : List Int) (hn : ns.length ≤ 63) (S : Sto) : wpR (m_law [.scr (ns.map Z.D.int)] S) fun d _ => d = .bl true := by
  unfold m_law
  have er2 := fun S : Sto => rng1 2 (by decide) S
  have hcut := cut_len (ns.map Z.D.int) (some 1) (some 3)
  rw [List.length_map] at hcut
  rw [x_run, wpS_seq, x_for, wpS_lift]
  refine ⟨rfl, ?_⟩
  simp [hz]
  refine cellV (by decide) fun c => ⟨by omega, ?_⟩
  refine for_wp (fun es τ S => (∀ d ∈ es, ∃ c : Int, d = .int c) ∧ X0 (.scr (ns.map Z.D.int)) τ) ?_ (fun _ _ _ => trivial) _ _ _ ⟨cells_int, _, _, _, _, _, _, _, rfl⟩
  rintro d es τ S1 ⟨hd, a1, a2, a3, a4, a5, a6, a7, rfl⟩
  obtain ⟨c, rfl⟩ := hd d (by simp)
  have hd2 : ∀ d ∈ es, ∃ c : Int, d = .int c := fun d h => hd d (by simp [h])
  refine ⟨_, rfl, ?_⟩
  generalize Z.D.scr (ns.map Z.D.int) = nsd
  simp
  refine penV fun S2 f2 _ => ?_
  simp [er2]
  refine for_rng 2 (X1 nsd (.int c) S1.length) ?_ ?_ _ _ ⟨_, _, _, _, _, rfl, f2.pen⟩
  · rintro j τ S3 hj ⟨a3, a4, a5, a6, a7, rfl, p3⟩
    refine ⟨_, rfl, ?_⟩
    rw [wpS_seq]
    simp [setAll, bindT, -wpS_seq]
    refine made1 p3 fun b ps S4 hB hR f4 => ?_
    have hG := Gq_words hB.toOkB hR
    obtain ⟨x, hx⟩ := repr_list hG (by decide) (by decide)
    obtain ⟨S5, S6, l1, c0, r, e1, e2, fr, g1, g2, g3⟩ := both_read hB hR S4
    have hx1 := hx S5 l1 g1
    have hx2 := hx S6 (c0 + 2) g3
    have hne := x_neS (S := S6) x
    have hback := fun p (hp : p ∈ ps) S => taken_ok hR hp S
    have hwi := fun p => without_ro hR p
    have hbr := fun (p : Pa) (S : Sto) => both_read hB (hwi p) S
    have hgw := fun p => Gq_words hB.toOkB (hwi p)
    have hit : ∀ S, itemsOf (.tup (ps.map Pa.D)) S = some ⟨ps.map Pa.D, []⟩ := fun _ => rfl
    have p6 := (PF.fr f4.pen fr).pen
    have hmem : ∀ d ∈ ps.map Pa.D, ∃ p ∈ ps, d = Pa.D p := fun d hd => by
      obtain ⟨p, hp, rfl⟩ := List.mem_map.mp hd
      exact ⟨p, hp, rfl⟩
    generalize hpd : Z.D.tup (ps.map Pa.D) = pd at *
    generalize hbd : b.D = bd at *
    simp [setAll, bindT, -wpS_seq]
    rw [wpS_seq]
    simp [e1, hx1, e2, at0, hx2, hne, -wpS_seq, hit]
    refine for_wp (X2 nsd (.int c) S1.length (.int (j : Int)) bd pd ps) ?_ ?_ _ _ _ ⟨hmem, _, _, rfl, p6⟩
    · rintro dd es2 τ S7 ⟨hes, a4, a7, rfl, p7⟩
      obtain ⟨p, hp, rfl⟩ := hes dd (by simp)
      have hes2 := fun d hd => hes d (List.mem_cons_of_mem _ hd)
      refine ⟨_, rfl, ?_⟩
      obtain ⟨S8, S9, l2, c2, r2, k1, k2, kr, m1, m2, m3⟩ := hbr p S7
      have hn2 := ne_cellsV (hgw p) (by decide) m2 m3
      have hb2 := hback p hp S7
      generalize Z.D.tup ((without ps p).map Pa.D) = wd at *
      simp [hb2, k1, k2, at0, hn2]
      exact ⟨hes2, _, _, rfl, (PF.fr p7 kr).pen⟩
    · rintro τ S7 ⟨_, a4, a7, rfl, p7⟩
      exact ⟨_, _, _, _, _, rfl, p7⟩
  · rintro τ S3 ⟨a3, a4, a5, a6, a7, rfl, p3⟩
    exact ⟨hd2, _, _, _, _, _, _, _, rfl⟩
end Sp
namespace Lk12
open PySem L2 Z
theorem law_true : ∀ ns : List Int, ns.length ≤ 63 → ∃ S', m_law [.scr (ns.map Z.D.int)] [] = .ok (.bl true) S' := fun ns h => by
  obtain ⟨a, S, e, rfl⟩ := wpR_get (Sp.law_wp ns h [])
  exact ⟨S, e⟩
end Lk12

/-! the end -/
namespace Lk12
open PySem L2 Z PyProof.Rows Pg V1
theorem all_mk {l : PySem.W.OpenLaw} {w : World} {K : PySem.W.Frag} {h : Heap} {mg : Str → Option Value} {fa : Addr} (X : K.In h) (G : h.Ns mainGlobals mg) (hfa : mg "law" = some (.ref fa))
    {f0 : Addr} {oc0 kV0 dc0 pm0 cd0 ct0 : Value} {od0 an0 : Option Addr} {sl0 : Array (Option Value)} (a0 : PySem.W.nsIn K mainGlobals "is_within" = some (some (.ref f0))) (l0 : K.lookup f0 = some ⟨oc0, od0, .func (PySem.W.fnOf "is_within" "is_within" (defArgs (top 15)) (defBody (top 15)) (defScope (top 15)) .none kV0 dc0 pm0 an0 cd0 ct0), sl0⟩) (c0 : PySem.W.codeIn K cd0 "is_within" = true) (k0 : PySem.W.keepIn K (.ref f0) = true)
    {f1 : Addr} {oc1 kV1 dc1 pm1 cd1 ct1 : Value} {od1 an1 : Option Addr} {sl1 : Array (Option Value)} (a1 : PySem.W.nsIn K mainGlobals "is_upto" = some (some (.ref f1))) (l1 : K.lookup f1 = some ⟨oc1, od1, .func (PySem.W.fnOf "is_upto" "is_upto" (defArgs (top 16)) (defBody (top 16)) (defScope (top 16)) .none kV1 dc1 pm1 an1 cd1 ct1), sl1⟩) (c1 : PySem.W.codeIn K cd1 "is_upto" = true) (k1 : PySem.W.keepIn K (.ref f1) = true)
    {f2 : Addr} {oc2 kV2 dc2 pm2 cd2 ct2 : Value} {od2 an2 : Option Addr} {sl2 : Array (Option Value)} (a2 : PySem.W.nsIn K mainGlobals "is_sitting" = some (some (.ref f2))) (l2 : K.lookup f2 = some ⟨oc2, od2, .func (PySem.W.fnOf "is_sitting" "is_sitting" (defArgs (top 17)) (defBody (top 17)) (defScope (top 17)) .none kV2 dc2 pm2 an2 cd2 ct2), sl2⟩) (c2 : PySem.W.codeIn K cd2 "is_sitting" = true) (k2 : PySem.W.keepIn K (.ref f2) = true)
    {f3 : Addr} {oc3 kV3 dc3 pm3 cd3 ct3 : Value} {od3 an3 : Option Addr} {sl3 : Array (Option Value)} (a3 : PySem.W.nsIn K mainGlobals "is_round" = some (some (.ref f3))) (l3 : K.lookup f3 = some ⟨oc3, od3, .func (PySem.W.fnOf "is_round" "is_round" (defArgs (top 18)) (defBody (top 18)) (defScope (top 18)) .none kV3 dc3 pm3 an3 cd3 ct3), sl3⟩) (c3 : PySem.W.codeIn K cd3 "is_round" = true) (k3 : PySem.W.keepIn K (.ref f3) = true)
    {f4 : Addr} {oc4 kV4 dc4 pm4 cd4 ct4 : Value} {od4 an4 : Option Addr} {sl4 : Array (Option Value)} (a4 : PySem.W.nsIn K mainGlobals "is_bench" = some (some (.ref f4))) (l4 : K.lookup f4 = some ⟨oc4, od4, .func (PySem.W.fnOf "is_bench" "is_bench" (defArgs (top 19)) (defBody (top 19)) (defScope (top 19)) .none kV4 dc4 pm4 an4 cd4 ct4), sl4⟩) (c4 : PySem.W.codeIn K cd4 "is_bench" = true) (k4 : PySem.W.keepIn K (.ref f4) = true)
    {f5 : Addr} {oc5 kV5 dc5 pm5 cd5 ct5 : Value} {od5 an5 : Option Addr} {sl5 : Array (Option Value)} (a5 : PySem.W.nsIn K mainGlobals "is_paper" = some (some (.ref f5))) (l5 : K.lookup f5 = some ⟨oc5, od5, .func (PySem.W.fnOf "is_paper" "is_paper" (defArgs (top 20)) (defBody (top 20)) (defScope (top 20)) .none kV5 dc5 pm5 an5 cd5 ct5), sl5⟩) (c5 : PySem.W.codeIn K cd5 "is_paper" = true) (k5 : PySem.W.keepIn K (.ref f5) = true)
    {f6 : Addr} {oc6 kV6 dc6 pm6 cd6 ct6 : Value} {od6 an6 : Option Addr} {sl6 : Array (Option Value)} (a6 : PySem.W.nsIn K mainGlobals "is_roll" = some (some (.ref f6))) (l6 : K.lookup f6 = some ⟨oc6, od6, .func (PySem.W.fnOf "is_roll" "is_roll" (defArgs (top 21)) (defBody (top 21)) (defScope (top 21)) .none kV6 dc6 pm6 an6 cd6 ct6), sl6⟩) (c6 : PySem.W.codeIn K cd6 "is_roll" = true) (k6 : PySem.W.keepIn K (.ref f6) = true)
    {f7 : Addr} {oc7 kV7 dc7 pm7 cd7 ct7 : Value} {od7 an7 : Option Addr} {sl7 : Array (Option Value)} (a7 : PySem.W.nsIn K mainGlobals "need_bench" = some (some (.ref f7))) (l7 : K.lookup f7 = some ⟨oc7, od7, .func (PySem.W.fnOf "need_bench" "need_bench" (defArgs (top 22)) (defBody (top 22)) (defScope (top 22)) .none kV7 dc7 pm7 an7 cd7 ct7), sl7⟩) (c7 : PySem.W.codeIn K cd7 "need_bench" = true) (k7 : PySem.W.keepIn K (.ref f7) = true)
    {f8 : Addr} {oc8 kV8 dc8 pm8 cd8 ct8 : Value} {od8 an8 : Option Addr} {sl8 : Array (Option Value)} (a8 : PySem.W.nsIn K mainGlobals "need_paper" = some (some (.ref f8))) (l8 : K.lookup f8 = some ⟨oc8, od8, .func (PySem.W.fnOf "need_paper" "need_paper" (defArgs (top 23)) (defBody (top 23)) (defScope (top 23)) .none kV8 dc8 pm8 an8 cd8 ct8), sl8⟩) (c8 : PySem.W.codeIn K cd8 "need_paper" = true) (k8 : PySem.W.keepIn K (.ref f8) = true)
    {f9 : Addr} {oc9 kV9 dc9 pm9 cd9 ct9 : Value} {od9 an9 : Option Addr} {sl9 : Array (Option Value)} (a9 : PySem.W.nsIn K mainGlobals "need_roll" = some (some (.ref f9))) (l9 : K.lookup f9 = some ⟨oc9, od9, .func (PySem.W.fnOf "need_roll" "need_roll" (defArgs (top 24)) (defBody (top 24)) (defScope (top 24)) .none kV9 dc9 pm9 an9 cd9 ct9), sl9⟩) (c9 : PySem.W.codeIn K cd9 "need_roll" = true) (k9 : PySem.W.keepIn K (.ref f9) = true)
    {f10 : Addr} {oc10 kV10 dc10 pm10 cd10 ct10 : Value} {od10 an10 : Option Addr} {sl10 : Array (Option Value)} (a10 : PySem.W.nsIn K mainGlobals "need_both" = some (some (.ref f10))) (l10 : K.lookup f10 = some ⟨oc10, od10, .func (PySem.W.fnOf "need_both" "need_both" (defArgs (top 25)) (defBody (top 25)) (defScope (top 25)) .none kV10 dc10 pm10 an10 cd10 ct10), sl10⟩) (c10 : PySem.W.codeIn K cd10 "need_both" = true) (k10 : PySem.W.keepIn K (.ref f10) = true)
    {f11 : Addr} {oc11 kV11 dc11 pm11 cd11 ct11 : Value} {od11 an11 : Option Addr} {sl11 : Array (Option Value)} (a11 : PySem.W.nsIn K mainGlobals "need_in" = some (some (.ref f11))) (l11 : K.lookup f11 = some ⟨oc11, od11, .func (PySem.W.fnOf "need_in" "need_in" (defArgs (top 27)) (defBody (top 27)) (defScope (top 27)) .none kV11 dc11 pm11 an11 cd11 ct11), sl11⟩) (c11 : PySem.W.codeIn K cd11 "need_in" = true) (k11 : PySem.W.keepIn K (.ref f11) = true)
    {f12 : Addr} {oc12 kV12 dc12 pm12 cd12 ct12 : Value} {od12 an12 : Option Addr} {sl12 : Array (Option Value)} (a12 : PySem.W.nsIn K mainGlobals "without_paper" = some (some (.ref f12))) (l12 : K.lookup f12 = some ⟨oc12, od12, .func (PySem.W.fnOf "without_paper" "without_paper" (defArgs (top 28)) (defBody (top 28)) (defScope (top 28)) .none kV12 dc12 pm12 an12 cd12 ct12), sl12⟩) (c12 : PySem.W.codeIn K cd12 "without_paper" = true) (k12 : PySem.W.keepIn K (.ref f12) = true)
    {f13 : Addr} {oc13 kV13 dc13 pm13 cd13 ct13 : Value} {od13 an13 : Option Addr} {sl13 : Array (Option Value)} (a13 : PySem.W.nsIn K mainGlobals "taken_back" = some (some (.ref f13))) (l13 : K.lookup f13 = some ⟨oc13, od13, .func (PySem.W.fnOf "taken_back" "taken_back" (defArgs (top 29)) (defBody (top 29)) (defScope (top 29)) .none kV13 dc13 pm13 an13 cd13 ct13), sl13⟩) (c13 : PySem.W.codeIn K cd13 "taken_back" = true) (k13 : PySem.W.keepIn K (.ref f13) = true)
    {f14 : Addr} {oc14 kV14 dc14 pm14 cd14 ct14 : Value} {od14 an14 : Option Addr} {sl14 : Array (Option Value)} (a14 : PySem.W.nsIn K mainGlobals "sitting_on" = some (some (.ref f14))) (l14 : K.lookup f14 = some ⟨oc14, od14, .func (PySem.W.fnOf "sitting_on" "sitting_on" (defArgs (top 31)) (defBody (top 31)) (defScope (top 31)) .none kV14 dc14 pm14 an14 cd14 ct14), sl14⟩) (c14 : PySem.W.codeIn K cd14 "sitting_on" = true) (k14 : PySem.W.keepIn K (.ref f14) = true)
    {cS_Cause : Addr} (zc_Cause : PySem.W.nsIn K mainGlobals "Cause" = some (some (.ref cS_Cause))) (zk_Cause : PySem.W.keepIn K (.ref cS_Cause) = true) (zp_Cause : PySem.W.plainGet K cS_Cause Str.empty = true) (zh_Cause : PySem.W.hasDictIn K cS_Cause = true) (zo_Cause : PySem.W.plainOver K cS_Cause = true) (zs_Cause : PySem.W.findIn K (.ref cS_Cause) "__setattr__" = some (some (.builtin "object.__setattr__"))) (zm_Cause : PySem.W.makesIn K cS_Cause = true)
    (zn_Cause_person : PySem.W.findIn K (.ref cS_Cause) "person" = some none)
    (zn_Cause_deed : PySem.W.findIn K (.ref cS_Cause) "deed" = some none)
    (zn_Cause_town : PySem.W.findIn K (.ref cS_Cause) "town" = some none)
    (zn_Cause_word : PySem.W.findIn K (.ref cS_Cause) "word" = some none)
    (zn_Cause_since : PySem.W.findIn K (.ref cS_Cause) "since" = some none)
    (zn_Cause_spent : PySem.W.findIn K (.ref cS_Cause) "spent" = some none)
    (zn_Cause_past : PySem.W.findIn K (.ref cS_Cause) "past" = some none)
    (zn_Cause_pledger : PySem.W.findIn K (.ref cS_Cause) "pledger" = some none)
    (zn_Cause_puts : PySem.W.findIn K (.ref cS_Cause) "puts" = some none)
    (zn_Cause_until : PySem.W.findIn K (.ref cS_Cause) "until" = some none)
    (zn_Cause_by : PySem.W.findIn K (.ref cS_Cause) "by" = some none)
    {f15 : Addr} {oc15 kV15 dc15 pm15 cd15 ct15 : Value} {od15 an15 : Option Addr} {sl15 : Array (Option Value)} (a15 : PySem.W.findIn K (.ref cS_Cause) "__init__" = some (some (.ref f15))) (l15 : K.lookup f15 = some ⟨oc15, od15, .func (PySem.W.fnOf "__init__" "Cause.__init__" (defArgs (clsDef (top 36) 0)) (defBody (clsDef (top 36) 0)) (defScope (clsDef (top 36) 0)) .none kV15 dc15 pm15 an15 cd15 ct15), sl15⟩) (c15 : PySem.W.codeIn K cd15 "Cause.__init__" = true) (k15 : PySem.W.keepIn K (.ref f15) = true) (i15 : PySem.W.isFn K (.ref f15) = true)
    {f16 : Addr} {oc16 kV16 dc16 pm16 cd16 ct16 : Value} {od16 an16 : Option Addr} {sl16 : Array (Option Value)} (a16 : PySem.W.findIn K (.ref cS_Cause) "used" = some (some (.ref f16))) (l16 : K.lookup f16 = some ⟨oc16, od16, .func (PySem.W.fnOf "used" "Cause.used" (defArgs (clsDef (top 36) 1)) (defBody (clsDef (top 36) 1)) (defScope (clsDef (top 36) 1)) .none kV16 dc16 pm16 an16 cd16 ct16), sl16⟩) (c16 : PySem.W.codeIn K cd16 "Cause.used" = true) (k16 : PySem.W.keepIn K (.ref f16) = true) (i16 : PySem.W.isFn K (.ref f16) = true)
    {f17 : Addr} {oc17 kV17 dc17 pm17 cd17 ct17 : Value} {od17 an17 : Option Addr} {sl17 : Array (Option Value)} (a17 : PySem.W.findIn K (.ref cS_Cause) "is_held" = some (some (.ref f17))) (l17 : K.lookup f17 = some ⟨oc17, od17, .func (PySem.W.fnOf "is_held" "Cause.is_held" (defArgs (clsDef (top 36) 2)) (defBody (clsDef (top 36) 2)) (defScope (clsDef (top 36) 2)) .none kV17 dc17 pm17 an17 cd17 ct17), sl17⟩) (c17 : PySem.W.codeIn K cd17 "Cause.is_held" = true) (k17 : PySem.W.keepIn K (.ref f17) = true) (i17 : PySem.W.isFn K (.ref f17) = true)
    {f18 : Addr} {oc18 kV18 dc18 pm18 cd18 ct18 : Value} {od18 an18 : Option Addr} {sl18 : Array (Option Value)} (a18 : PySem.W.findIn K (.ref cS_Cause) "days_to" = some (some (.ref f18))) (l18 : K.lookup f18 = some ⟨oc18, od18, .func (PySem.W.fnOf "days_to" "Cause.days_to" (defArgs (clsDef (top 36) 3)) (defBody (clsDef (top 36) 3)) (defScope (clsDef (top 36) 3)) .none kV18 dc18 pm18 an18 cd18 ct18), sl18⟩) (c18 : PySem.W.codeIn K cd18 "Cause.days_to" = true) (k18 : PySem.W.keepIn K (.ref f18) = true) (i18 : PySem.W.isFn K (.ref f18) = true)
    {f19 : Addr} {oc19 kV19 dc19 pm19 cd19 ct19 : Value} {od19 an19 : Option Addr} {sl19 : Array (Option Value)} (a19 : PySem.W.findIn K (.ref cS_Cause) "let_go" = some (some (.ref f19))) (l19 : K.lookup f19 = some ⟨oc19, od19, .func (PySem.W.fnOf "let_go" "Cause.let_go" (defArgs (clsDef (top 36) 4)) (defBody (clsDef (top 36) 4)) (defScope (clsDef (top 36) 4)) .none kV19 dc19 pm19 an19 cd19 ct19), sl19⟩) (c19 : PySem.W.codeIn K cd19 "Cause.let_go" = true) (k19 : PySem.W.keepIn K (.ref f19) = true) (i19 : PySem.W.isFn K (.ref f19) = true)
    {f20 : Addr} {oc20 kV20 dc20 pm20 cd20 ct20 : Value} {od20 an20 : Option Addr} {sl20 : Array (Option Value)} (a20 : PySem.W.findIn K (.ref cS_Cause) "end" = some (some (.ref f20))) (l20 : K.lookup f20 = some ⟨oc20, od20, .func (PySem.W.fnOf "end" "Cause.end" (defArgs (clsDef (top 36) 5)) (defBody (clsDef (top 36) 5)) (defScope (clsDef (top 36) 5)) .none kV20 dc20 pm20 an20 cd20 ct20), sl20⟩) (c20 : PySem.W.codeIn K cd20 "Cause.end" = true) (k20 : PySem.W.keepIn K (.ref f20) = true) (i20 : PySem.W.isFn K (.ref f20) = true)
    {cS_Reading : Addr} (zc_Reading : PySem.W.nsIn K mainGlobals "Reading" = some (some (.ref cS_Reading))) (zk_Reading : PySem.W.keepIn K (.ref cS_Reading) = true) (zp_Reading : PySem.W.plainGet K cS_Reading Str.empty = true) (zh_Reading : PySem.W.hasDictIn K cS_Reading = true) (zo_Reading : PySem.W.plainOver K cS_Reading = true) (zs_Reading : PySem.W.findIn K (.ref cS_Reading) "__setattr__" = some (some (.builtin "object.__setattr__"))) (zm_Reading : PySem.W.makesIn K cS_Reading = true)
    (zn_Reading_bench : PySem.W.findIn K (.ref cS_Reading) "bench" = some none)
    (zn_Reading_struck : PySem.W.findIn K (.ref cS_Reading) "struck" = some none)
    (zn_Reading_done : PySem.W.findIn K (.ref cS_Reading) "done" = some none)
    (zn_Reading_causes : PySem.W.findIn K (.ref cS_Reading) "causes" = some none)
    (zn_Reading_pardons : PySem.W.findIn K (.ref cS_Reading) "pardons" = some none)
    (zn_Reading_words : PySem.W.findIn K (.ref cS_Reading) "words" = some none)
    (zn_Reading_lost : PySem.W.findIn K (.ref cS_Reading) "lost" = some none)
    (zn_Reading_strike : PySem.W.findIn K (.ref cS_Reading) "strike" = some none)
    {f21 : Addr} {oc21 kV21 dc21 pm21 cd21 ct21 : Value} {od21 an21 : Option Addr} {sl21 : Array (Option Value)} (a21 : PySem.W.findIn K (.ref cS_Reading) "__init__" = some (some (.ref f21))) (l21 : K.lookup f21 = some ⟨oc21, od21, .func (PySem.W.fnOf "__init__" "Reading.__init__" (defArgs (clsDef (top 37) 0)) (defBody (clsDef (top 37) 0)) (defScope (clsDef (top 37) 0)) .none kV21 dc21 pm21 an21 cd21 ct21), sl21⟩) (c21 : PySem.W.codeIn K cd21 "Reading.__init__" = true) (k21 : PySem.W.keepIn K (.ref f21) = true) (i21 : PySem.W.isFn K (.ref f21) = true)
    {f22 : Addr} {oc22 kV22 dc22 pm22 cd22 ct22 : Value} {od22 an22 : Option Addr} {sl22 : Array (Option Value)} (a22 : PySem.W.findIn K (.ref cS_Reading) "is_away" = some (some (.ref f22))) (l22 : K.lookup f22 = some ⟨oc22, od22, .func (PySem.W.fnOf "is_away" "Reading.is_away" (defArgs (clsDef (top 37) 1)) (defBody (clsDef (top 37) 1)) (defScope (clsDef (top 37) 1)) .none kV22 dc22 pm22 an22 cd22 ct22), sl22⟩) (c22 : PySem.W.codeIn K cd22 "Reading.is_away" = true) (k22 : PySem.W.keepIn K (.ref f22) = true) (i22 : PySem.W.isFn K (.ref f22) = true)
    {f23 : Addr} {oc23 kV23 dc23 pm23 cd23 ct23 : Value} {od23 an23 : Option Addr} {sl23 : Array (Option Value)} (a23 : PySem.W.findIn K (.ref cS_Reading) "other_judged" = some (some (.ref f23))) (l23 : K.lookup f23 = some ⟨oc23, od23, .func (PySem.W.fnOf "other_judged" "Reading.other_judged" (defArgs (clsDef (top 37) 2)) (defBody (clsDef (top 37) 2)) (defScope (clsDef (top 37) 2)) .none kV23 dc23 pm23 an23 cd23 ct23), sl23⟩) (c23 : PySem.W.codeIn K cd23 "Reading.other_judged" = true) (k23 : PySem.W.keepIn K (.ref f23) = true) (i23 : PySem.W.isFn K (.ref f23) = true)
    {f24 : Addr} {oc24 kV24 dc24 pm24 cd24 ct24 : Value} {od24 an24 : Option Addr} {sl24 : Array (Option Value)} (a24 : PySem.W.findIn K (.ref cS_Reading) "judge" = some (some (.ref f24))) (l24 : K.lookup f24 = some ⟨oc24, od24, .func (PySem.W.fnOf "judge" "Reading.judge" (defArgs (clsDef (top 37) 14)) (defBody (clsDef (top 37) 14)) (defScope (clsDef (top 37) 14)) .none kV24 dc24 pm24 an24 cd24 ct24), sl24⟩) (c24 : PySem.W.codeIn K cd24 "Reading.judge" = true) (k24 : PySem.W.keepIn K (.ref f24) = true) (i24 : PySem.W.isFn K (.ref f24) = true)
    {f25 : Addr} {oc25 kV25 dc25 pm25 cd25 ct25 : Value} {od25 an25 : Option Addr} {sl25 : Array (Option Value)} (a25 : PySem.W.findIn K (.ref cS_Reading) "bill" = some (some (.ref f25))) (l25 : K.lookup f25 = some ⟨oc25, od25, .func (PySem.W.fnOf "bill" "Reading.bill" (defArgs (clsDef (top 37) 11)) (defBody (clsDef (top 37) 11)) (defScope (clsDef (top 37) 11)) .none kV25 dc25 pm25 an25 cd25 ct25), sl25⟩) (c25 : PySem.W.codeIn K cd25 "Reading.bill" = true) (k25 : PySem.W.keepIn K (.ref f25) = true) (i25 : PySem.W.isFn K (.ref f25) = true)
    {f26 : Addr} {oc26 kV26 dc26 pm26 cd26 ct26 : Value} {od26 an26 : Option Addr} {sl26 : Array (Option Value)} (a26 : PySem.W.findIn K (.ref cS_Reading) "miss" = some (some (.ref f26))) (l26 : K.lookup f26 = some ⟨oc26, od26, .func (PySem.W.fnOf "miss" "Reading.miss" (defArgs (clsDef (top 37) 12)) (defBody (clsDef (top 37) 12)) (defScope (clsDef (top 37) 12)) .none kV26 dc26 pm26 an26 cd26 ct26), sl26⟩) (c26 : PySem.W.codeIn K cd26 "Reading.miss" = true) (k26 : PySem.W.keepIn K (.ref f26) = true) (i26 : PySem.W.isFn K (.ref f26) = true)
    {f27 : Addr} {oc27 kV27 dc27 pm27 cd27 ct27 : Value} {od27 an27 : Option Addr} {sl27 : Array (Option Value)} (a27 : PySem.W.findIn K (.ref cS_Reading) "put_over" = some (some (.ref f27))) (l27 : K.lookup f27 = some ⟨oc27, od27, .func (PySem.W.fnOf "put_over" "Reading.put_over" (defArgs (clsDef (top 37) 13)) (defBody (clsDef (top 37) 13)) (defScope (clsDef (top 37) 13)) .none kV27 dc27 pm27 an27 cd27 ct27), sl27⟩) (c27 : PySem.W.codeIn K cd27 "Reading.put_over" = true) (k27 : PySem.W.keepIn K (.ref f27) = true) (i27 : PySem.W.isFn K (.ref f27) = true)
    {f28 : Addr} {oc28 kV28 dc28 pm28 cd28 ct28 : Value} {od28 an28 : Option Addr} {sl28 : Array (Option Value)} (a28 : PySem.W.findIn K (.ref cS_Reading) "by_bench" = some (some (.ref f28))) (l28 : K.lookup f28 = some ⟨oc28, od28, .func (PySem.W.fnOf "by_bench" "Reading.by_bench" (defArgs (clsDef (top 37) 10)) (defBody (clsDef (top 37) 10)) (defScope (clsDef (top 37) 10)) .none kV28 dc28 pm28 an28 cd28 ct28), sl28⟩) (c28 : PySem.W.codeIn K cd28 "Reading.by_bench" = true) (k28 : PySem.W.keepIn K (.ref f28) = true) (i28 : PySem.W.isFn K (.ref f28) = true)
    {f29 : Addr} {oc29 kV29 dc29 pm29 cd29 ct29 : Value} {od29 an29 : Option Addr} {sl29 : Array (Option Value)} (a29 : PySem.W.findIn K (.ref cS_Reading) "charge" = some (some (.ref f29))) (l29 : K.lookup f29 = some ⟨oc29, od29, .func (PySem.W.fnOf "charge" "Reading.charge" (defArgs (clsDef (top 37) 4)) (defBody (clsDef (top 37) 4)) (defScope (clsDef (top 37) 4)) .none kV29 dc29 pm29 an29 cd29 ct29), sl29⟩) (c29 : PySem.W.codeIn K cd29 "Reading.charge" = true) (k29 : PySem.W.keepIn K (.ref f29) = true) (i29 : PySem.W.isFn K (.ref f29) = true)
    {f30 : Addr} {oc30 kV30 dc30 pm30 cd30 ct30 : Value} {od30 an30 : Option Addr} {sl30 : Array (Option Value)} (a30 : PySem.W.findIn K (.ref cS_Reading) "pardon" = some (some (.ref f30))) (l30 : K.lookup f30 = some ⟨oc30, od30, .func (PySem.W.fnOf "pardon" "Reading.pardon" (defArgs (clsDef (top 37) 5)) (defBody (clsDef (top 37) 5)) (defScope (clsDef (top 37) 5)) .none kV30 dc30 pm30 an30 cd30 ct30), sl30⟩) (c30 : PySem.W.codeIn K cd30 "Reading.pardon" = true) (k30 : PySem.W.keepIn K (.ref f30) = true) (i30 : PySem.W.isFn K (.ref f30) = true)
    {f31 : Addr} {oc31 kV31 dc31 pm31 cd31 ct31 : Value} {od31 an31 : Option Addr} {sl31 : Array (Option Value)} (a31 : PySem.W.findIn K (.ref cS_Reading) "aside" = some (some (.ref f31))) (l31 : K.lookup f31 = some ⟨oc31, od31, .func (PySem.W.fnOf "aside" "Reading.aside" (defArgs (clsDef (top 37) 6)) (defBody (clsDef (top 37) 6)) (defScope (clsDef (top 37) 6)) .none kV31 dc31 pm31 an31 cd31 ct31), sl31⟩) (c31 : PySem.W.codeIn K cd31 "Reading.aside" = true) (k31 : PySem.W.keepIn K (.ref f31) = true) (i31 : PySem.W.isFn K (.ref f31) = true)
    {f32 : Addr} {oc32 kV32 dc32 pm32 cd32 ct32 : Value} {od32 an32 : Option Addr} {sl32 : Array (Option Value)} (a32 : PySem.W.findIn K (.ref cS_Reading) "hold" = some (some (.ref f32))) (l32 : K.lookup f32 = some ⟨oc32, od32, .func (PySem.W.fnOf "hold" "Reading.hold" (defArgs (clsDef (top 37) 8)) (defBody (clsDef (top 37) 8)) (defScope (clsDef (top 37) 8)) .none kV32 dc32 pm32 an32 cd32 ct32), sl32⟩) (c32 : PySem.W.codeIn K cd32 "Reading.hold" = true) (k32 : PySem.W.keepIn K (.ref f32) = true) (i32 : PySem.W.isFn K (.ref f32) = true)
    {f33 : Addr} {oc33 kV33 dc33 pm33 cd33 ct33 : Value} {od33 an33 : Option Addr} {sl33 : Array (Option Value)} (a33 : PySem.W.findIn K (.ref cS_Reading) "pledge" = some (some (.ref f33))) (l33 : K.lookup f33 = some ⟨oc33, od33, .func (PySem.W.fnOf "pledge" "Reading.pledge" (defArgs (clsDef (top 37) 9)) (defBody (clsDef (top 37) 9)) (defScope (clsDef (top 37) 9)) .none kV33 dc33 pm33 an33 cd33 ct33), sl33⟩) (c33 : PySem.W.codeIn K cd33 "Reading.pledge" = true) (k33 : PySem.W.keepIn K (.ref f33) = true) (i33 : PySem.W.isFn K (.ref f33) = true)
    {f34 : Addr} {oc34 kV34 dc34 pm34 cd34 ct34 : Value} {od34 an34 : Option Addr} {sl34 : Array (Option Value)} (a34 : PySem.W.findIn K (.ref cS_Reading) "in_open" = some (some (.ref f34))) (l34 : K.lookup f34 = some ⟨oc34, od34, .func (PySem.W.fnOf "in_open" "Reading.in_open" (defArgs (clsDef (top 37) 7)) (defBody (clsDef (top 37) 7)) (defScope (clsDef (top 37) 7)) .none kV34 dc34 pm34 an34 cd34 ct34), sl34⟩) (c34 : PySem.W.codeIn K cd34 "Reading.in_open" = true) (k34 : PySem.W.keepIn K (.ref f34) = true) (i34 : PySem.W.isFn K (.ref f34) = true)
    {f35 : Addr} {oc35 kV35 dc35 pm35 cd35 ct35 : Value} {od35 an35 : Option Addr} {sl35 : Array (Option Value)} (a35 : PySem.W.findIn K (.ref cS_Reading) "read" = some (some (.ref f35))) (l35 : K.lookup f35 = some ⟨oc35, od35, .func (PySem.W.fnOf "read" "Reading.read" (defArgs (clsDef (top 37) 3)) (defBody (clsDef (top 37) 3)) (defScope (clsDef (top 37) 3)) .none kV35 dc35 pm35 an35 cd35 ct35), sl35⟩) (c35 : PySem.W.codeIn K cd35 "Reading.read" = true) (k35 : PySem.W.keepIn K (.ref f35) = true) (i35 : PySem.W.isFn K (.ref f35) = true)
    {f36 : Addr} {oc36 kV36 dc36 pm36 cd36 ct36 : Value} {od36 an36 : Option Addr} {sl36 : Array (Option Value)} (a36 : PySem.W.nsIn K mainGlobals "read_by" = some (some (.ref f36))) (l36 : K.lookup f36 = some ⟨oc36, od36, .func (PySem.W.fnOf "read_by" "read_by" (defArgs (top 38)) (defBody (top 38)) (defScope (top 38)) .none kV36 dc36 pm36 an36 cd36 ct36), sl36⟩) (c36 : PySem.W.codeIn K cd36 "read_by" = true) (k36 : PySem.W.keepIn K (.ref f36) = true)
    {f37 : Addr} {oc37 kV37 dc37 pm37 cd37 ct37 : Value} {od37 an37 : Option Addr} {sl37 : Array (Option Value)} (a37 : PySem.W.nsIn K mainGlobals "outcomes" = some (some (.ref f37))) (l37 : K.lookup f37 = some ⟨oc37, od37, .func (PySem.W.fnOf "outcomes" "outcomes" (defArgs (top 39)) (defBody (top 39)) (defScope (top 39)) .none kV37 dc37 pm37 an37 cd37 ct37), sl37⟩) (c37 : PySem.W.codeIn K cd37 "outcomes" = true) (k37 : PySem.W.keepIn K (.ref f37) = true)
    {f38 : Addr} {oc38 kV38 dc38 pm38 cd38 ct38 : Value} {od38 an38 : Option Addr} {sl38 : Array (Option Value)} (a38 : PySem.W.nsIn K mainGlobals "_law_cell" = some (some (.ref f38))) (l38 : K.lookup f38 = some ⟨oc38, od38, .func (PySem.W.fnOf "_law_cell" "_law_cell" (defArgs (top 41)) (defBody (top 41)) (defScope (top 41)) .none kV38 dc38 pm38 an38 cd38 ct38), sl38⟩) (c38 : PySem.W.codeIn K cd38 "_law_cell" = true) (k38 : PySem.W.keepIn K (.ref f38) = true)
    {f39 : Addr} {oc39 kV39 dc39 pm39 cd39 ct39 : Value} {od39 an39 : Option Addr} {sl39 : Array (Option Value)} (a39 : PySem.W.nsIn K mainGlobals "_law_pen" = some (some (.ref f39))) (l39 : K.lookup f39 = some ⟨oc39, od39, .func (PySem.W.fnOf "_law_pen" "_law_pen" (defArgs (top 42)) (defBody (top 42)) (defScope (top 42)) .none kV39 dc39 pm39 an39 cd39 ct39), sl39⟩) (c39 : PySem.W.codeIn K cd39 "_law_pen" = true) (k39 : PySem.W.keepIn K (.ref f39) = true)
    {f40 : Addr} {oc40 kV40 dc40 pm40 cd40 ct40 : Value} {od40 an40 : Option Addr} {sl40 : Array (Option Value)} (a40 : PySem.W.nsIn K mainGlobals "_law_draw" = some (some (.ref f40))) (l40 : K.lookup f40 = some ⟨oc40, od40, .func (PySem.W.fnOf "_law_draw" "_law_draw" (defArgs (top 43)) (defBody (top 43)) (defScope (top 43)) .none kV40 dc40 pm40 an40 cd40 ct40), sl40⟩) (c40 : PySem.W.codeIn K cd40 "_law_draw" = true) (k40 : PySem.W.keepIn K (.ref f40) = true)
    {f41 : Addr} {oc41 kV41 dc41 pm41 cd41 ct41 : Value} {od41 an41 : Option Addr} {sl41 : Array (Option Value)} (a41 : PySem.W.nsIn K mainGlobals "_law_cause" = some (some (.ref f41))) (l41 : K.lookup f41 = some ⟨oc41, od41, .func (PySem.W.fnOf "_law_cause" "_law_cause" (defArgs (top 44)) (defBody (top 44)) (defScope (top 44)) .none kV41 dc41 pm41 an41 cd41 ct41), sl41⟩) (c41 : PySem.W.codeIn K cd41 "_law_cause" = true) (k41 : PySem.W.keepIn K (.ref f41) = true)
    {f42 : Addr} {oc42 kV42 dc42 pm42 cd42 ct42 : Value} {od42 an42 : Option Addr} {sl42 : Array (Option Value)} (a42 : PySem.W.nsIn K mainGlobals "_law_held" = some (some (.ref f42))) (l42 : K.lookup f42 = some ⟨oc42, od42, .func (PySem.W.fnOf "_law_held" "_law_held" (defArgs (top 45)) (defBody (top 45)) (defScope (top 45)) .none kV42 dc42 pm42 an42 cd42 ct42), sl42⟩) (c42 : PySem.W.codeIn K cd42 "_law_held" = true) (k42 : PySem.W.keepIn K (.ref f42) = true)
    {f43 : Addr} {oc43 kV43 dc43 pm43 cd43 ct43 : Value} {od43 an43 : Option Addr} {sl43 : Array (Option Value)} (a43 : PySem.W.nsIn K mainGlobals "_law_free" = some (some (.ref f43))) (l43 : K.lookup f43 = some ⟨oc43, od43, .func (PySem.W.fnOf "_law_free" "_law_free" (defArgs (top 46)) (defBody (top 46)) (defScope (top 46)) .none kV43 dc43 pm43 an43 cd43 ct43), sl43⟩) (c43 : PySem.W.codeIn K cd43 "_law_free" = true) (k43 : PySem.W.keepIn K (.ref f43) = true)
    {f44 : Addr} {oc44 kV44 dc44 pm44 cd44 ct44 : Value} {od44 an44 : Option Addr} {sl44 : Array (Option Value)} (a44 : PySem.W.nsIn K mainGlobals "_law_close" = some (some (.ref f44))) (l44 : K.lookup f44 = some ⟨oc44, od44, .func (PySem.W.fnOf "_law_close" "_law_close" (defArgs (top 47)) (defBody (top 47)) (defScope (top 47)) .none kV44 dc44 pm44 an44 cd44 ct44), sl44⟩) (c44 : PySem.W.codeIn K cd44 "_law_close" = true) (k44 : PySem.W.keepIn K (.ref f44) = true)
    {f45 : Addr} {oc45 kV45 dc45 pm45 cd45 ct45 : Value} {od45 an45 : Option Addr} {sl45 : Array (Option Value)} (a45 : PySem.W.nsIn K mainGlobals "_law_last" = some (some (.ref f45))) (l45 : K.lookup f45 = some ⟨oc45, od45, .func (PySem.W.fnOf "_law_last" "_law_last" (defArgs (top 48)) (defBody (top 48)) (defScope (top 48)) .none kV45 dc45 pm45 an45 cd45 ct45), sl45⟩) (c45 : PySem.W.codeIn K cd45 "_law_last" = true) (k45 : PySem.W.keepIn K (.ref f45) = true)
    {f46 : Addr} {oc46 kV46 dc46 pm46 cd46 ct46 : Value} {od46 an46 : Option Addr} {sl46 : Array (Option Value)} (a46 : PySem.W.nsIn K mainGlobals "_law_judged" = some (some (.ref f46))) (l46 : K.lookup f46 = some ⟨oc46, od46, .func (PySem.W.fnOf "_law_judged" "_law_judged" (defArgs (top 49)) (defBody (top 49)) (defScope (top 49)) .none kV46 dc46 pm46 an46 cd46 ct46), sl46⟩) (c46 : PySem.W.codeIn K cd46 "_law_judged" = true) (k46 : PySem.W.keepIn K (.ref f46) = true)
    {f47 : Addr} {oc47 kV47 dc47 pm47 cd47 ct47 : Value} {od47 an47 : Option Addr} {sl47 : Array (Option Value)} (a47 : PySem.W.nsIn K mainGlobals "_law_charge" = some (some (.ref f47))) (l47 : K.lookup f47 = some ⟨oc47, od47, .func (PySem.W.fnOf "_law_charge" "_law_charge" (defArgs (top 50)) (defBody (top 50)) (defScope (top 50)) .none kV47 dc47 pm47 an47 cd47 ct47), sl47⟩) (c47 : PySem.W.codeIn K cd47 "_law_charge" = true) (k47 : PySem.W.keepIn K (.ref f47) = true)
    {f48 : Addr} {oc48 kV48 dc48 pm48 cd48 ct48 : Value} {od48 an48 : Option Addr} {sl48 : Array (Option Value)} (a48 : PySem.W.nsIn K mainGlobals "_law_pardon" = some (some (.ref f48))) (l48 : K.lookup f48 = some ⟨oc48, od48, .func (PySem.W.fnOf "_law_pardon" "_law_pardon" (defArgs (top 51)) (defBody (top 51)) (defScope (top 51)) .none kV48 dc48 pm48 an48 cd48 ct48), sl48⟩) (c48 : PySem.W.codeIn K cd48 "_law_pardon" = true) (k48 : PySem.W.keepIn K (.ref f48) = true)
    {f49 : Addr} {oc49 kV49 dc49 pm49 cd49 ct49 : Value} {od49 an49 : Option Addr} {sl49 : Array (Option Value)} (a49 : PySem.W.nsIn K mainGlobals "_law_holds" = some (some (.ref f49))) (l49 : K.lookup f49 = some ⟨oc49, od49, .func (PySem.W.fnOf "_law_holds" "_law_holds" (defArgs (top 52)) (defBody (top 52)) (defScope (top 52)) .none kV49 dc49 pm49 an49 cd49 ct49), sl49⟩) (c49 : PySem.W.codeIn K cd49 "_law_holds" = true) (k49 : PySem.W.keepIn K (.ref f49) = true)
    {f50 : Addr} {oc50 kV50 dc50 pm50 cd50 ct50 : Value} {od50 an50 : Option Addr} {sl50 : Array (Option Value)} (a50 : PySem.W.nsIn K mainGlobals "_law_pledges" = some (some (.ref f50))) (l50 : K.lookup f50 = some ⟨oc50, od50, .func (PySem.W.fnOf "_law_pledges" "_law_pledges" (defArgs (top 53)) (defBody (top 53)) (defScope (top 53)) .none kV50 dc50 pm50 an50 cd50 ct50), sl50⟩) (c50 : PySem.W.codeIn K cd50 "_law_pledges" = true) (k50 : PySem.W.keepIn K (.ref f50) = true)
    {f51 : Addr} {oc51 kV51 dc51 pm51 cd51 ct51 : Value} {od51 an51 : Option Addr} {sl51 : Array (Option Value)} (a51 : PySem.W.nsIn K mainGlobals "_law_misses" = some (some (.ref f51))) (l51 : K.lookup f51 = some ⟨oc51, od51, .func (PySem.W.fnOf "_law_misses" "_law_misses" (defArgs (top 54)) (defBody (top 54)) (defScope (top 54)) .none kV51 dc51 pm51 an51 cd51 ct51), sl51⟩) (c51 : PySem.W.codeIn K cd51 "_law_misses" = true) (k51 : PySem.W.keepIn K (.ref f51) = true)
    {f52 : Addr} {oc52 kV52 dc52 pm52 cd52 ct52 : Value} {od52 an52 : Option Addr} {sl52 : Array (Option Value)} (a52 : PySem.W.nsIn K mainGlobals "_law_heard" = some (some (.ref f52))) (l52 : K.lookup f52 = some ⟨oc52, od52, .func (PySem.W.fnOf "_law_heard" "_law_heard" (defArgs (top 55)) (defBody (top 55)) (defScope (top 55)) .none kV52 dc52 pm52 an52 cd52 ct52), sl52⟩) (c52 : PySem.W.codeIn K cd52 "_law_heard" = true) (k52 : PySem.W.keepIn K (.ref f52) = true)
    {f53 : Addr} {oc53 kV53 dc53 pm53 cd53 ct53 : Value} {od53 an53 : Option Addr} {sl53 : Array (Option Value)} (a53 : PySem.W.nsIn K mainGlobals "_law_done" = some (some (.ref f53))) (l53 : K.lookup f53 = some ⟨oc53, od53, .func (PySem.W.fnOf "_law_done" "_law_done" (defArgs (top 56)) (defBody (top 56)) (defScope (top 56)) .none kV53 dc53 pm53 an53 cd53 ct53), sl53⟩) (c53 : PySem.W.codeIn K cd53 "_law_done" = true) (k53 : PySem.W.keepIn K (.ref f53) = true)
    {f54 : Addr} {oc54 kV54 dc54 pm54 cd54 ct54 : Value} {od54 an54 : Option Addr} {sl54 : Array (Option Value)} (a54 : PySem.W.nsIn K mainGlobals "_law_pass" = some (some (.ref f54))) (l54 : K.lookup f54 = some ⟨oc54, od54, .func (PySem.W.fnOf "_law_pass" "_law_pass" (defArgs (top 57)) (defBody (top 57)) (defScope (top 57)) .none kV54 dc54 pm54 an54 cd54 ct54), sl54⟩) (c54 : PySem.W.codeIn K cd54 "_law_pass" = true) (k54 : PySem.W.keepIn K (.ref f54) = true)
    {f55 : Addr} {oc55 kV55 dc55 pm55 cd55 ct55 : Value} {od55 an55 : Option Addr} {sl55 : Array (Option Value)} (a55 : PySem.W.nsIn K mainGlobals "_law_read" = some (some (.ref f55))) (l55 : K.lookup f55 = some ⟨oc55, od55, .func (PySem.W.fnOf "_law_read" "_law_read" (defArgs (top 58)) (defBody (top 58)) (defScope (top 58)) .none kV55 dc55 pm55 an55 cd55 ct55), sl55⟩) (c55 : PySem.W.codeIn K cd55 "_law_read" = true) (k55 : PySem.W.keepIn K (.ref f55) = true)
    {f56 : Addr} {oc56 kV56 dc56 pm56 cd56 ct56 : Value} {od56 an56 : Option Addr} {sl56 : Array (Option Value)} (a56 : PySem.W.nsIn K mainGlobals "_law_made" = some (some (.ref f56))) (l56 : K.lookup f56 = some ⟨oc56, od56, .func (PySem.W.fnOf "_law_made" "_law_made" (defArgs (top 59)) (defBody (top 59)) (defScope (top 59)) .none kV56 dc56 pm56 an56 cd56 ct56), sl56⟩) (c56 : PySem.W.codeIn K cd56 "_law_made" = true) (k56 : PySem.W.keepIn K (.ref f56) = true)
    {f57 : Addr} {oc57 kV57 dc57 pm57 cd57 ct57 : Value} {od57 an57 : Option Addr} {sl57 : Array (Option Value)} (a57 : PySem.W.nsIn K mainGlobals "law" = some (some (.ref f57))) (l57 : K.lookup f57 = some ⟨oc57, od57, .func (PySem.W.fnOf "law" "law" (defArgs (top 60)) (defBody (top 60)) (defScope (top 60)) .none kV57 dc57 pm57 an57 cd57 ct57), sl57⟩) (c57 : PySem.W.codeIn K cd57 "law" = true) (k57 : PySem.W.keepIn K (.ref f57) = true)
    (z_all : PySem.W.nsIn K mainGlobals "all" = some none)
    (z_bool : PySem.W.nsIn K mainGlobals "bool" = some none)
    (z_divmod : PySem.W.nsIn K mainGlobals "divmod" = some none)
    (z_int : PySem.W.nsIn K mainGlobals "int" = some none)
    (z_isinstance : PySem.W.nsIn K mainGlobals "isinstance" = some none)
    (z_len : PySem.W.nsIn K mainGlobals "len" = some none)
    (z_list : PySem.W.nsIn K mainGlobals "list" = some none)
    (z_max : PySem.W.nsIn K mainGlobals "max" = some none)
    (z_min : PySem.W.nsIn K mainGlobals "min" = some none)
    (z_range : PySem.W.nsIn K mainGlobals "range" = some none)
    (z_repr : PySem.W.nsIn K mainGlobals "repr" = some none)
    (z_set : PySem.W.nsIn K mainGlobals "set" = some none)
    (z_sorted : PySem.W.nsIn K mainGlobals "sorted" = some none)
    (z_str : PySem.W.nsIn K mainGlobals "str" = some none)
    (z_tuple : PySem.W.nsIn K mainGlobals "tuple" = some none)
    (z_zip : PySem.W.nsIn K mainGlobals "zip" = some none)
    {t_DAYS : Tok} (z_DAYS : PySem.W.nsIn K mainGlobals "DAYS" = some (some (.int 61 t_DAYS)))
    {qd_FORMS : Addr} {nd_FORMS : Nat} {tk1 : Tok} {tl3 : Tok} {tl4 : Tok} {tl5 : Tok} {tl6 : Tok} {pl2 : Addr} {nl2 : Nat} {dl2 : Option Addr} {sl2 : Array (Option Value)} {tk7 : Tok} {tl9 : Tok} {tl10 : Tok} {pl8 : Addr} {nl8 : Nat} {dl8 : Option Addr} {sl8 : Array (Option Value)} {tk11 : Tok} {tl13 : Tok} {pl12 : Addr} {nl12 : Nat} {dl12 : Option Addr} {sl12 : Array (Option Value)} {tk14 : Tok} {tl16 : Tok} {tl17 : Tok} {pl15 : Addr} {nl15 : Nat} {dl15 : Option Addr} {sl15 : Array (Option Value)} {tk18 : Tok} {tl20 : Tok} {pl19 : Addr} {nl19 : Nat} {dl19 : Option Addr} {sl19 : Array (Option Value)} {tk21 : Tok} {tl23 : Tok} {pl22 : Addr} {nl22 : Nat} {dl22 : Option Addr} {sl22 : Array (Option Value)} {tk24 : Tok} {tl26 : Tok} {tl27 : Tok} {pl25 : Addr} {nl25 : Nat} {dl25 : Option Addr} {sl25 : Array (Option Value)} {tk28 : Tok} {tl30 : Tok} {tl31 : Tok} {pl29 : Addr} {nl29 : Nat} {dl29 : Option Addr} {sl29 : Array (Option Value)} {tk32 : Tok} {tl34 : Tok} {tl35 : Tok} {pl33 : Addr} {nl33 : Nat} {dl33 : Option Addr} {sl33 : Array (Option Value)} {tk36 : Tok} {tl38 : Tok} {pl37 : Addr} {nl37 : Nat} {dl37 : Option Addr} {sl37 : Array (Option Value)}
    (z_FORMS : PySem.W.nsIn K mainGlobals "FORMS" = some (some (.ref qd_FORMS))) (ld_FORMS : K.lookup qd_FORMS = some ⟨.type "dict", none, .dict #[⟨PyData.keyHash w.params "charge", .str "charge" tk1, .ref pl2⟩, ⟨PyData.keyHash w.params "bill", .str "bill" tk7, .ref pl8⟩, ⟨PyData.keyHash w.params "hold", .str "hold" tk11, .ref pl12⟩, ⟨PyData.keyHash w.params "pledge", .str "pledge" tk14, .ref pl15⟩, ⟨PyData.keyHash w.params "miss", .str "miss" tk18, .ref pl19⟩, ⟨PyData.keyHash w.params "over", .str "over" tk21, .ref pl22⟩, ⟨PyData.keyHash w.params "move", .str "move" tk24, .ref pl25⟩, ⟨PyData.keyHash w.params "judge", .str "judge" tk28, .ref pl29⟩, ⟨PyData.keyHash w.params "pardon", .str "pardon" tk32, .ref pl33⟩, ⟨PyData.keyHash w.params "aside", .str "aside" tk36, .ref pl37⟩] nd_FORMS, #[]⟩) (sy_FORMS : (qd_FORMS == sysModules) = false) (lq2 : K.lookup pl2 = some ⟨.type "tuple", dl2, .seq #[.int 6 tl3, .int 6 tl4, .int 4 tl5, .int 4 tl6] nl2, sl2⟩) (lq8 : K.lookup pl8 = some ⟨.type "tuple", dl8, .seq #[.int 6 tl9, .int 2 tl10] nl8, sl8⟩) (lq12 : K.lookup pl12 = some ⟨.type "tuple", dl12, .seq #[.int 6 tl13] nl12, sl12⟩) (lq15 : K.lookup pl15 = some ⟨.type "tuple", dl15, .seq #[.int 6 tl16, .int 6 tl17] nl15, sl15⟩) (lq19 : K.lookup pl19 = some ⟨.type "tuple", dl19, .seq #[.int 6 tl20] nl19, sl19⟩) (lq22 : K.lookup pl22 = some ⟨.type "tuple", dl22, .seq #[.int 6 tl23] nl22, sl22⟩) (lq25 : K.lookup pl25 = some ⟨.type "tuple", dl25, .seq #[.int 6 tl26, .int 4 tl27] nl25, sl25⟩) (lq29 : K.lookup pl29 = some ⟨.type "tuple", dl29, .seq #[.int 6 tl30, .int 2 tl31] nl29, sl29⟩) (lq33 : K.lookup pl33 = some ⟨.type "tuple", dl33, .seq #[.int 6 tl34, .int 4 tl35] nl33, sl33⟩) (lq37 : K.lookup pl37 = some ⟨.type "tuple", dl37, .seq #[.int 6 tl38] nl37, sl37⟩)
    {tl40 : Tok} {tl41 : Tok} {pl39 : Addr} {nl39 : Nat} {dl39 : Option Addr} {sl39 : Array (Option Value)}
    (z_JUDGED : PySem.W.nsIn K mainGlobals "JUDGED" = some (some (.ref pl39))) (lq39 : K.lookup pl39 = some ⟨.type "tuple", dl39, .seq #[.str "guilty" tl40, .str "clear" tl41] nl39, sl39⟩)
    {t_MOST_PAPERS : Tok} (z_MOST_PAPERS : PySem.W.nsIn K mainGlobals "MOST_PAPERS" = some (some (.int 24 t_MOST_PAPERS)))
    {t_MOST_SITTINGS : Tok} (z_MOST_SITTINGS : PySem.W.nsIn K mainGlobals "MOST_SITTINGS" = some (some (.int 8 t_MOST_SITTINGS)))
    {tl43 : Tok} {tl44 : Tok} {pl42 : Addr} {nl42 : Nat} {dl42 : Option Addr} {sl42 : Array (Option Value)}
    (z_OPEN : PySem.W.nsIn K mainGlobals "OPEN" = some (some (.ref pl42))) (lq42 : K.lookup pl42 = some ⟨.type "tuple", dl42, .seq #[.str "charged" tl43, .str "ready" tl44] nl42, sl42⟩)
    {t_TAKES : Tok} (z_TAKES : PySem.W.nsIn K mainGlobals "TAKES" = some (some (.str "takes" t_TAKES)))
    {t_TOWNS : Tok} (z_TOWNS : PySem.W.nsIn K mainGlobals "TOWNS" = some (some (.int 4 t_TOWNS)))
    : ∃ (fd : FuncData) (f : List D → Sto → R D), (∀ (s : Shared) (u : Value), BindsTo s fd ⟨[u], []⟩ [("_law_script", u)]) ∧ (∀ base : Heap, K.In base → base.Ns mainGlobals mg → FnG l.prog w K mg base 10 fa fd ["_law_script"] f) ∧ ∀ ns : List Int, ns.length ≤ 63 → ∃ S', f [.scr (ns.map D.int)] [] = .ok (.bl true) S' := by
  have e := hfa.symm.trans (PySem.W.mg_of X G a57)
  cases e
  let T : Tx w.params K mg := {
    a_is_within := f0
    fd_is_within := _
    F_is_within := fun_mk (st := top 15) l0 c0 k0
    g_is_within := PySem.W.mg_of X G a0
    b_is_within := (fun_mk (st := top 15) l0 c0 k0).binds (ps := ["thing", "least", "most"]) fun _ _ _ _ _ _ us hl => match us, hl with | [_, _, _], _ => rfl
    a_is_upto := f1
    fd_is_upto := _
    F_is_upto := fun_mk (st := top 16) l1 c1 k1
    g_is_upto := PySem.W.mg_of X G a1
    b_is_upto := (fun_mk (st := top 16) l1 c1 k1).binds (ps := ["thing", "many"]) fun _ _ _ _ _ _ us hl => match us, hl with | [_, _], _ => rfl
    a_is_sitting := f2
    fd_is_sitting := _
    F_is_sitting := fun_mk (st := top 17) l2 c2 k2
    g_is_sitting := PySem.W.mg_of X G a2
    b_is_sitting := (fun_mk (st := top 17) l2 c2 k2).binds (ps := ["thing"]) fun _ _ _ _ _ _ us hl => match us, hl with | [_], _ => rfl
    a_is_round := f3
    fd_is_round := _
    F_is_round := fun_mk (st := top 18) l3 c3 k3
    g_is_round := PySem.W.mg_of X G a3
    b_is_round := (fun_mk (st := top 18) l3 c3 k3).binds (ps := ["thing"]) fun _ _ _ _ _ _ us hl => match us, hl with | [_], _ => rfl
    a_is_bench := f4
    fd_is_bench := _
    F_is_bench := fun_mk (st := top 19) l4 c4 k4
    g_is_bench := PySem.W.mg_of X G a4
    b_is_bench := (fun_mk (st := top 19) l4 c4 k4).binds (ps := ["thing"]) fun _ _ _ _ _ _ us hl => match us, hl with | [_], _ => rfl
    a_is_paper := f5
    fd_is_paper := _
    F_is_paper := fun_mk (st := top 20) l5 c5 k5
    g_is_paper := PySem.W.mg_of X G a5
    b_is_paper := (fun_mk (st := top 20) l5 c5 k5).binds (ps := ["thing"]) fun _ _ _ _ _ _ us hl => match us, hl with | [_], _ => rfl
    a_is_roll := f6
    fd_is_roll := _
    F_is_roll := fun_mk (st := top 21) l6 c6 k6
    g_is_roll := PySem.W.mg_of X G a6
    b_is_roll := (fun_mk (st := top 21) l6 c6 k6).binds (ps := ["thing"]) fun _ _ _ _ _ _ us hl => match us, hl with | [_], _ => rfl
    a_need_bench := f7
    fd_need_bench := _
    F_need_bench := fun_mk (st := top 22) l7 c7 k7
    g_need_bench := PySem.W.mg_of X G a7
    b_need_bench := (fun_mk (st := top 22) l7 c7 k7).binds (ps := ["thing"]) fun _ _ _ _ _ _ us hl => match us, hl with | [_], _ => rfl
    a_need_paper := f8
    fd_need_paper := _
    F_need_paper := fun_mk (st := top 23) l8 c8 k8
    g_need_paper := PySem.W.mg_of X G a8
    b_need_paper := (fun_mk (st := top 23) l8 c8 k8).binds (ps := ["thing"]) fun _ _ _ _ _ _ us hl => match us, hl with | [_], _ => rfl
    a_need_roll := f9
    fd_need_roll := _
    F_need_roll := fun_mk (st := top 24) l9 c9 k9
    g_need_roll := PySem.W.mg_of X G a9
    b_need_roll := (fun_mk (st := top 24) l9 c9 k9).binds (ps := ["thing"]) fun _ _ _ _ _ _ us hl => match us, hl with | [_], _ => rfl
    a_need_both := f10
    fd_need_both := _
    F_need_both := fun_mk (st := top 25) l10 c10 k10
    g_need_both := PySem.W.mg_of X G a10
    b_need_both := (fun_mk (st := top 25) l10 c10 k10).binds (ps := ["bench", "roll"]) fun _ _ _ _ _ _ us hl => match us, hl with | [_, _], _ => rfl
    a_need_in := f11
    fd_need_in := _
    F_need_in := fun_mk (st := top 27) l11 c11 k11
    g_need_in := PySem.W.mg_of X G a11
    b_need_in := (fun_mk (st := top 27) l11 c11 k11).binds (ps := ["roll", "paper"]) fun _ _ _ _ _ _ us hl => match us, hl with | [_, _], _ => rfl
    a_without_paper := f12
    fd_without_paper := _
    F_without_paper := fun_mk (st := top 28) l12 c12 k12
    g_without_paper := PySem.W.mg_of X G a12
    b_without_paper := (fun_mk (st := top 28) l12 c12 k12).binds (ps := ["roll", "paper"]) fun _ _ _ _ _ _ us hl => match us, hl with | [_, _], _ => rfl
    a_taken_back := f13
    fd_taken_back := _
    F_taken_back := fun_mk (st := top 29) l13 c13 k13
    g_taken_back := PySem.W.mg_of X G a13
    b_taken_back := (fun_mk (st := top 29) l13 c13 k13).binds (ps := ["roll", "paper"]) fun _ _ _ _ _ _ us hl => match us, hl with | [_, _], _ => rfl
    a_sitting_on := f14
    fd_sitting_on := _
    F_sitting_on := fun_mk (st := top 31) l14 c14 k14
    g_sitting_on := PySem.W.mg_of X G a14
    b_sitting_on := (fun_mk (st := top 31) l14 c14 k14).binds (ps := ["bench", "day"]) fun _ _ _ _ _ _ us hl => match us, hl with | [_, _], _ => rfl
    e_Cause := cS_Cause
    at_Cause := clsAt_of zc_Cause
    gm_Cause := PySem.W.mg_of X G zc_Cause
    cl_Cause := ⟨zp_Cause, zh_Cause, zo_Cause, zs_Cause⟩
    f_Cause := fun f hf => ⟨clsAt_of zc_Cause, ⟨zp_Cause, zh_Cause, zo_Cause, zs_Cause⟩, by
      simp only [List.mem_cons, List.not_mem_nil, or_false] at hf
      rcases hf with rfl | rfl | rfl | rfl | rfl | rfl | rfl | rfl | rfl | rfl | rfl
      · exact zn_Cause_person
      · exact zn_Cause_deed
      · exact zn_Cause_town
      · exact zn_Cause_word
      · exact zn_Cause_since
      · exact zn_Cause_spent
      · exact zn_Cause_past
      · exact zn_Cause_pledger
      · exact zn_Cause_puts
      · exact zn_Cause_until
      · exact zn_Cause_by⟩
    a_Cause_init := f15
    fd_Cause_init := _
    F_Cause_init := fun_mk (st := clsDef (top 36) 0) l15 c15 k15
    mk_Cause := ⟨zm_Cause, a15, i15, zk_Cause⟩
    b_Cause_init := (fun_mk (st := clsDef (top 36) 0) l15 c15 k15).binds (ps := ["self", "person", "deed", "town"]) fun _ _ _ _ _ _ us hl => match us, hl with | [_, _, _, _], _ => rfl
    a_Cause_used := f16
    fd_Cause_used := _
    F_Cause_used := fun_mk (st := clsDef (top 36) 1) l16 c16 k16
    me_Cause_used := ⟨a16, i16, k16⟩
    b_Cause_used := (fun_mk (st := clsDef (top 36) 1) l16 c16 k16).binds (ps := ["self", "most", "day"]) fun _ _ _ _ _ _ us hl => match us, hl with | [_, _, _], _ => rfl
    a_Cause_is_held := f17
    fd_Cause_is_held := _
    F_Cause_is_held := fun_mk (st := clsDef (top 36) 2) l17 c17 k17
    me_Cause_is_held := ⟨a17, i17, k17⟩
    b_Cause_is_held := (fun_mk (st := clsDef (top 36) 2) l17 c17 k17).binds (ps := ["self", "most", "day"]) fun _ _ _ _ _ _ us hl => match us, hl with | [_, _, _], _ => rfl
    a_Cause_days_to := f18
    fd_Cause_days_to := _
    F_Cause_days_to := fun_mk (st := clsDef (top 36) 3) l18 c18 k18
    me_Cause_days_to := ⟨a18, i18, k18⟩
    b_Cause_days_to := (fun_mk (st := clsDef (top 36) 3) l18 c18 k18).binds (ps := ["self", "most", "day"]) fun _ _ _ _ _ _ us hl => match us, hl with | [_, _, _], _ => rfl
    a_Cause_let_go := f19
    fd_Cause_let_go := _
    F_Cause_let_go := fun_mk (st := clsDef (top 36) 4) l19 c19 k19
    me_Cause_let_go := ⟨a19, i19, k19⟩
    b_Cause_let_go := (fun_mk (st := clsDef (top 36) 4) l19 c19 k19).binds (ps := ["self", "most", "day"]) fun _ _ _ _ _ _ us hl => match us, hl with | [_, _, _], _ => rfl
    a_Cause_end := f20
    fd_Cause_end := _
    F_Cause_end := fun_mk (st := clsDef (top 36) 5) l20 c20 k20
    me_Cause_end := ⟨a20, i20, k20⟩
    b_Cause_end := (fun_mk (st := clsDef (top 36) 5) l20 c20 k20).binds (ps := ["self", "most", "day", "word"]) fun _ _ _ _ _ _ us hl => match us, hl with | [_, _, _, _], _ => rfl
    e_Reading := cS_Reading
    at_Reading := clsAt_of zc_Reading
    gm_Reading := PySem.W.mg_of X G zc_Reading
    cl_Reading := ⟨zp_Reading, zh_Reading, zo_Reading, zs_Reading⟩
    f_Reading := fun f hf => ⟨clsAt_of zc_Reading, ⟨zp_Reading, zh_Reading, zo_Reading, zs_Reading⟩, by
      simp only [List.mem_cons, List.not_mem_nil, or_false] at hf
      rcases hf with rfl | rfl | rfl | rfl | rfl | rfl | rfl | rfl
      · exact zn_Reading_bench
      · exact zn_Reading_struck
      · exact zn_Reading_done
      · exact zn_Reading_causes
      · exact zn_Reading_pardons
      · exact zn_Reading_words
      · exact zn_Reading_lost
      · exact zn_Reading_strike⟩
    a_Reading_init := f21
    fd_Reading_init := _
    F_Reading_init := fun_mk (st := clsDef (top 37) 0) l21 c21 k21
    mk_Reading := ⟨zm_Reading, a21, i21, zk_Reading⟩
    b_Reading_init := (fun_mk (st := clsDef (top 37) 0) l21 c21 k21).binds (ps := ["self", "bench", "struck", "done"]) fun _ _ _ _ _ _ us hl => match us, hl with | [_, _, _, _], _ => rfl
    a_Reading_is_away := f22
    fd_Reading_is_away := _
    F_Reading_is_away := fun_mk (st := clsDef (top 37) 1) l22 c22 k22
    me_Reading_is_away := ⟨a22, i22, k22⟩
    b_Reading_is_away := (fun_mk (st := clsDef (top 37) 1) l22 c22 k22).binds (ps := ["self", "cause", "day"]) fun _ _ _ _ _ _ us hl => match us, hl with | [_, _, _], _ => rfl
    a_Reading_other_judged := f23
    fd_Reading_other_judged := _
    F_Reading_other_judged := fun_mk (st := clsDef (top 37) 2) l23 c23 k23
    me_Reading_other_judged := ⟨a23, i23, k23⟩
    b_Reading_other_judged := (fun_mk (st := clsDef (top 37) 2) l23 c23 k23).binds (ps := ["self", "number", "person", "deed"]) fun _ _ _ _ _ _ us hl => match us, hl with | [_, _, _, _], _ => rfl
    a_Reading_judge := f24
    fd_Reading_judge := _
    F_Reading_judge := fun_mk (st := clsDef (top 37) 14) l24 c24 k24
    me_Reading_judge := ⟨a24, i24, k24⟩
    b_Reading_judge := (fun_mk (st := clsDef (top 37) 14) l24 c24 k24).binds (ps := ["self", "paper", "cause"]) fun _ _ _ _ _ _ us hl => match us, hl with | [_, _, _], _ => rfl
    a_Reading_bill := f25
    fd_Reading_bill := _
    F_Reading_bill := fun_mk (st := clsDef (top 37) 11) l25 c25 k25
    me_Reading_bill := ⟨a25, i25, k25⟩
    b_Reading_bill := (fun_mk (st := clsDef (top 37) 11) l25 c25 k25).binds (ps := ["self", "day", "cause", "good"]) fun _ _ _ _ _ _ us hl => match us, hl with | [_, _, _, _], _ => rfl
    a_Reading_miss := f26
    fd_Reading_miss := _
    F_Reading_miss := fun_mk (st := clsDef (top 37) 12) l26 c26 k26
    me_Reading_miss := ⟨a26, i26, k26⟩
    b_Reading_miss := (fun_mk (st := clsDef (top 37) 12) l26 c26 k26).binds (ps := ["self", "day", "cause", "number"]) fun _ _ _ _ _ _ us hl => match us, hl with | [_, _, _, _], _ => rfl
    a_Reading_put_over := f27
    fd_Reading_put_over := _
    F_Reading_put_over := fun_mk (st := clsDef (top 37) 13) l27 c27 k27
    me_Reading_put_over := ⟨a27, i27, k27⟩
    b_Reading_put_over := (fun_mk (st := clsDef (top 37) 13) l27 c27 k27).binds (ps := ["self", "day", "cause"]) fun _ _ _ _ _ _ us hl => match us, hl with | [_, _, _], _ => rfl
    a_Reading_by_bench := f28
    fd_Reading_by_bench := _
    F_Reading_by_bench := fun_mk (st := clsDef (top 37) 10) l28 c28 k28
    me_Reading_by_bench := ⟨a28, i28, k28⟩
    b_Reading_by_bench := (fun_mk (st := clsDef (top 37) 10) l28 c28 k28).binds (ps := ["self", "paper", "cause"]) fun _ _ _ _ _ _ us hl => match us, hl with | [_, _, _], _ => rfl
    a_Reading_charge := f29
    fd_Reading_charge := _
    F_Reading_charge := fun_mk (st := clsDef (top 37) 4) l29 c29 k29
    me_Reading_charge := ⟨a29, i29, k29⟩
    b_Reading_charge := (fun_mk (st := clsDef (top 37) 4) l29 c29 k29).binds (ps := ["self", "paper"]) fun _ _ _ _ _ _ us hl => match us, hl with | [_, _], _ => rfl
    a_Reading_pardon := f30
    fd_Reading_pardon := _
    F_Reading_pardon := fun_mk (st := clsDef (top 37) 5) l30 c30 k30
    me_Reading_pardon := ⟨a30, i30, k30⟩
    b_Reading_pardon := (fun_mk (st := clsDef (top 37) 5) l30 c30 k30).binds (ps := ["self", "day", "both"]) fun _ _ _ _ _ _ us hl => match us, hl with | [_, _, _], _ => rfl
    a_Reading_aside := f31
    fd_Reading_aside := _
    F_Reading_aside := fun_mk (st := clsDef (top 37) 6) l31 c31 k31
    me_Reading_aside := ⟨a31, i31, k31⟩
    b_Reading_aside := (fun_mk (st := clsDef (top 37) 6) l31 c31 k31).binds (ps := ["self", "paper", "cause"]) fun _ _ _ _ _ _ us hl => match us, hl with | [_, _, _], _ => rfl
    a_Reading_hold := f32
    fd_Reading_hold := _
    F_Reading_hold := fun_mk (st := clsDef (top 37) 8) l32 c32 k32
    me_Reading_hold := ⟨a32, i32, k32⟩
    b_Reading_hold := (fun_mk (st := clsDef (top 37) 8) l32 c32 k32).binds (ps := ["self", "day", "cause"]) fun _ _ _ _ _ _ us hl => match us, hl with | [_, _, _], _ => rfl
    a_Reading_pledge := f33
    fd_Reading_pledge := _
    F_Reading_pledge := fun_mk (st := clsDef (top 37) 9) l33 c33 k33
    me_Reading_pledge := ⟨a33, i33, k33⟩
    b_Reading_pledge := (fun_mk (st := clsDef (top 37) 9) l33 c33 k33).binds (ps := ["self", "day", "cause", "person"]) fun _ _ _ _ _ _ us hl => match us, hl with | [_, _, _, _], _ => rfl
    a_Reading_in_open := f34
    fd_Reading_in_open := _
    F_Reading_in_open := fun_mk (st := clsDef (top 37) 7) l34 c34 k34
    me_Reading_in_open := ⟨a34, i34, k34⟩
    b_Reading_in_open := (fun_mk (st := clsDef (top 37) 7) l34 c34 k34).binds (ps := ["self", "paper", "cause"]) fun _ _ _ _ _ _ us hl => match us, hl with | [_, _, _], _ => rfl
    a_Reading_read := f35
    fd_Reading_read := _
    F_Reading_read := fun_mk (st := clsDef (top 37) 3) l35 c35 k35
    me_Reading_read := ⟨a35, i35, k35⟩
    b_Reading_read := (fun_mk (st := clsDef (top 37) 3) l35 c35 k35).binds (ps := ["self", "paper"]) fun _ _ _ _ _ _ us hl => match us, hl with | [_, _], _ => rfl
    a_read_by := f36
    fd_read_by := _
    F_read_by := fun_mk (st := top 38) l36 c36 k36
    g_read_by := PySem.W.mg_of X G a36
    b_read_by := (fun_mk (st := top 38) l36 c36 k36).binds (ps := ["bench", "papers"]) fun _ _ _ _ _ _ us hl => match us, hl with | [_, _], _ => rfl
    a_outcomes := f37
    fd_outcomes := _
    F_outcomes := fun_mk (st := top 39) l37 c37 k37
    g_outcomes := PySem.W.mg_of X G a37
    b_outcomes := (fun_mk (st := top 39) l37 c37 k37).binds (ps := ["bench", "roll"]) fun _ _ _ _ _ _ us hl => match us, hl with | [_, _], _ => rfl
    a_law_cell := f38
    fd_law_cell := _
    F_law_cell := fun_mk (st := top 41) l38 c38 k38
    g_law_cell := PySem.W.mg_of X G a38
    b_law_cell := (fun_mk (st := top 41) l38 c38 k38).binds (ps := ["_law_script", "_law_k"]) fun _ _ _ _ _ _ us hl => match us, hl with | [_, _], _ => rfl
    a_law_pen := f39
    fd_law_pen := _
    F_law_pen := fun_mk (st := top 42) l39 c39 k39
    g_law_pen := PySem.W.mg_of X G a39
    b_law_pen := (fun_mk (st := top 42) l39 c39 k39).binds (ps := ["_law_cell_here"]) fun _ _ _ _ _ _ us hl => match us, hl with | [_], _ => rfl
    a_law_draw := f40
    fd_law_draw := _
    F_law_draw := fun_mk (st := top 43) l40 c40 k40
    g_law_draw := PySem.W.mg_of X G a40
    b_law_draw := (fun_mk (st := top 43) l40 c40 k40).binds (ps := ["_law_pen_here", "_law_many"]) fun _ _ _ _ _ _ us hl => match us, hl with | [_, _], _ => rfl
    a_law_cause := f41
    fd_law_cause := _
    F_law_cause := fun_mk (st := top 44) l41 c41 k41
    g_law_cause := PySem.W.mg_of X G a41
    b_law_cause := (fun_mk (st := top 44) l41 c41 k41).binds (ps := ["_law_person", "_law_deed", "_law_town"]) fun _ _ _ _ _ _ us hl => match us, hl with | [_, _, _], _ => rfl
    a_law_held := f42
    fd_law_held := _
    F_law_held := fun_mk (st := top 45) l42 c42 k42
    g_law_held := PySem.W.mg_of X G a42
    b_law_held := (fun_mk (st := top 45) l42 c42 k42).binds (ps := ["_law_hold", "_law_cause_here", "_law_day"]) fun _ _ _ _ _ _ us hl => match us, hl with | [_, _, _], _ => rfl
    a_law_free := f43
    fd_law_free := _
    F_law_free := fun_mk (st := top 46) l43 c43 k43
    g_law_free := PySem.W.mg_of X G a43
    b_law_free := (fun_mk (st := top 46) l43 c43 k43).binds (ps := ["_law_hold", "_law_cause_here", "_law_day"]) fun _ _ _ _ _ _ us hl => match us, hl with | [_, _, _], _ => rfl
    a_law_close := f44
    fd_law_close := _
    F_law_close := fun_mk (st := top 47) l44 c44 k44
    g_law_close := PySem.W.mg_of X G a44
    b_law_close := (fun_mk (st := top 47) l44 c44 k44).binds (ps := ["_law_hold", "_law_cause_here", "_law_day", "_law_word"]) fun _ _ _ _ _ _ us hl => match us, hl with | [_, _, _, _], _ => rfl
    a_law_last := f45
    fd_law_last := _
    F_law_last := fun_mk (st := top 48) l45 c45 k45
    g_law_last := PySem.W.mg_of X G a45
    b_law_last := (fun_mk (st := top 48) l45 c45 k45).binds (ps := ["_law_bench", "_law_day", "_law_town"]) fun _ _ _ _ _ _ us hl => match us, hl with | [_, _, _], _ => rfl
    a_law_judged := f46
    fd_law_judged := _
    F_law_judged := fun_mk (st := top 49) l46 c46 k46
    g_law_judged := PySem.W.mg_of X G a46
    b_law_judged := (fun_mk (st := top 49) l46 c46 k46).binds (ps := ["_law_causes", "_law_but", "_law_person", "_law_deed"]) fun _ _ _ _ _ _ us hl => match us, hl with | [_, _, _, _], _ => rfl
    a_law_charge := f47
    fd_law_charge := _
    F_law_charge := fun_mk (st := top 50) l47 c47 k47
    g_law_charge := PySem.W.mg_of X G a47
    b_law_charge := (fun_mk (st := top 50) l47 c47 k47).binds (ps := ["_law_causes", "_law_pardons", "_law_paper"]) fun _ _ _ _ _ _ us hl => match us, hl with | [_, _, _], _ => rfl
    a_law_pardon := f48
    fd_law_pardon := _
    F_law_pardon := fun_mk (st := top 51) l48 c48 k48
    g_law_pardon := PySem.W.mg_of X G a48
    b_law_pardon := (fun_mk (st := top 51) l48 c48 k48).binds (ps := ["_law_hold", "_law_causes", "_law_pardons", "_law_paper"]) fun _ _ _ _ _ _ us hl => match us, hl with | [_, _, _, _], _ => rfl
    a_law_holds := f49
    fd_law_holds := _
    F_law_holds := fun_mk (st := top 52) l49 c49 k49
    g_law_holds := PySem.W.mg_of X G a49
    b_law_holds := (fun_mk (st := top 52) l49 c49 k49).binds (ps := ["_law_hold", "_law_cause_here", "_law_day"]) fun _ _ _ _ _ _ us hl => match us, hl with | [_, _, _], _ => rfl
    a_law_pledges := f50
    fd_law_pledges := _
    F_law_pledges := fun_mk (st := top 53) l50 c50 k50
    g_law_pledges := PySem.W.mg_of X G a50
    b_law_pledges := (fun_mk (st := top 53) l50 c50 k50).binds (ps := ["_law_bench", "_law_causes", "_law_cause_here", "_law_day", "_law_person"]) fun _ _ _ _ _ _ us hl => match us, hl with | [_, _, _, _, _], _ => rfl
    a_law_misses := f51
    fd_law_misses := _
    F_law_misses := fun_mk (st := top 54) l51 c51 k51
    g_law_misses := PySem.W.mg_of X G a51
    b_law_misses := (fun_mk (st := top 54) l51 c51 k51).binds (ps := ["_law_bench", "_law_cause_here", "_law_lost", "_law_paper"]) fun _ _ _ _ _ _ us hl => match us, hl with | [_, _, _, _], _ => rfl
    a_law_heard := f52
    fd_law_heard := _
    F_law_heard := fun_mk (st := top 55) l52 c52 k52
    g_law_heard := PySem.W.mg_of X G a52
    b_law_heard := (fun_mk (st := top 55) l52 c52 k52).binds (ps := ["_law_bench", "_law_causes", "_law_cause_here", "_law_paper"]) fun _ _ _ _ _ _ us hl => match us, hl with | [_, _, _, _], _ => rfl
    a_law_done := f53
    fd_law_done := _
    F_law_done := fun_mk (st := top 56) l53 c53 k53
    g_law_done := PySem.W.mg_of X G a53
    b_law_done := (fun_mk (st := top 56) l53 c53 k53).binds (ps := ["_law_bench", "_law_causes", "_law_lost", "_law_paper"]) fun _ _ _ _ _ _ us hl => match us, hl with | [_, _, _, _], _ => rfl
    a_law_pass := f54
    fd_law_pass := _
    F_law_pass := fun_mk (st := top 57) l54 c54 k54
    g_law_pass := PySem.W.mg_of X G a54
    b_law_pass := (fun_mk (st := top 57) l54 c54 k54).binds (ps := ["_law_bench", "_law_papers", "_law_struck"]) fun _ _ _ _ _ _ us hl => match us, hl with | [_, _, _], _ => rfl
    a_law_read := f55
    fd_law_read := _
    F_law_read := fun_mk (st := top 58) l55 c55 k55
    g_law_read := PySem.W.mg_of X G a55
    b_law_read := (fun_mk (st := top 58) l55 c55 k55).binds (ps := ["_law_bench", "_law_papers"]) fun _ _ _ _ _ _ us hl => match us, hl with | [_, _], _ => rfl
    a_law_made := f56
    fd_law_made := _
    F_law_made := fun_mk (st := top 59) l56 c56 k56
    g_law_made := PySem.W.mg_of X G a56
    b_law_made := (fun_mk (st := top 59) l56 c56 k56).binds (ps := ["_law_pen_here"]) fun _ _ _ _ _ _ us hl => match us, hl with | [_], _ => rfl
    a_law := fa
    fd_law := _
    F_law := fun_mk (st := top 60) l57 c57 k57
    g_law := PySem.W.mg_of X G a57
    b_law := (fun_mk (st := top 60) l57 c57 k57).binds (ps := ["_law_script"]) fun _ _ _ _ _ _ us hl => match us, hl with | [_], _ => rfl
    n_all := PySem.W.mg_none_of X G z_all
    n_bool := PySem.W.mg_none_of X G z_bool
    n_divmod := PySem.W.mg_none_of X G z_divmod
    n_int := PySem.W.mg_none_of X G z_int
    n_isinstance := PySem.W.mg_none_of X G z_isinstance
    n_len := PySem.W.mg_none_of X G z_len
    n_list := PySem.W.mg_none_of X G z_list
    n_max := PySem.W.mg_none_of X G z_max
    n_min := PySem.W.mg_none_of X G z_min
    n_range := PySem.W.mg_none_of X G z_range
    n_repr := PySem.W.mg_none_of X G z_repr
    n_set := PySem.W.mg_none_of X G z_set
    n_sorted := PySem.W.mg_none_of X G z_sorted
    n_str := PySem.W.mg_none_of X G z_str
    n_tuple := PySem.W.mg_none_of X G z_tuple
    n_zip := PySem.W.mg_none_of X G z_zip
    c_DAYS := ⟨_, PySem.W.mg_of X G z_DAYS⟩
    q_FORMS := qd_FORMS
    c_FORMS := PySem.W.mg_of X G z_FORMS
    d_FORMS := ⟨⟨_, _, ld_FORMS, (.cons (.tup lq2 (Nat.le_of_ble_eq_true rfl) (.cons (.int _ _) (.cons (.int _ _) (.cons (.int _ _) (.cons (.int _ _) .nil))))) (.cons (.tup lq8 (Nat.le_of_ble_eq_true rfl) (.cons (.int _ _) (.cons (.int _ _) .nil))) (.cons (.tup lq12 (Nat.le_of_ble_eq_true rfl) (.cons (.int _ _) .nil)) (.cons (.tup lq15 (Nat.le_of_ble_eq_true rfl) (.cons (.int _ _) (.cons (.int _ _) .nil))) (.cons (.tup lq19 (Nat.le_of_ble_eq_true rfl) (.cons (.int _ _) .nil)) (.cons (.tup lq22 (Nat.le_of_ble_eq_true rfl) (.cons (.int _ _) .nil)) (.cons (.tup lq25 (Nat.le_of_ble_eq_true rfl) (.cons (.int _ _) (.cons (.int _ _) .nil))) (.cons (.tup lq29 (Nat.le_of_ble_eq_true rfl) (.cons (.int _ _) (.cons (.int _ _) .nil))) (.cons (.tup lq33 (Nat.le_of_ble_eq_true rfl) (.cons (.int _ _) (.cons (.int _ _) .nil))) (.cons (.tup lq37 (Nat.le_of_ble_eq_true rfl) (.cons (.int _ _) .nil)) .nil))))))))))⟩, sy_FORMS⟩
    q_JUDGED := pl39
    c_JUDGED := PySem.W.mg_of X G z_JUDGED
    v_JUDGED := (.tup lq39 (Nat.le_of_ble_eq_true rfl) (.cons (.str _ _) (.cons (.str _ _) .nil)))
    c_MOST_PAPERS := ⟨_, PySem.W.mg_of X G z_MOST_PAPERS⟩
    c_MOST_SITTINGS := ⟨_, PySem.W.mg_of X G z_MOST_SITTINGS⟩
    q_OPEN := pl42
    c_OPEN := PySem.W.mg_of X G z_OPEN
    v_OPEN := (.tup lq42 (Nat.le_of_ble_eq_true rfl) (.cons (.str _ _) (.cons (.str _ _) .nil)))
    c_TAKES := ⟨_, PySem.W.mg_of X G z_TAKES⟩
    c_TOWNS := ⟨_, PySem.W.mg_of X G z_TOWNS⟩ }
  exact ⟨T.fd_law, m_law, fun s v => .of_eq rfl, fun base _ _ => ok_law T, law_true⟩
end Lk12
open PySem PySem.W PyProof.Rows
set_option maxRecDepth 100000 in
set_option maxHeartbeats 0 in
theorem PySem.Challenge.cw_ridingbench_k12_reasons_that_hold_at_onc_holds : PySem.Challenge.rw_ridingbench_k12_reasons_that_hold_at_onc.Holds := by
  w_on; o_law; k_head; (case hw => w_witness2)
  k_fill
  refine Z.walk_G (l := PySem.Challenge.rw_ridingbench_k12_reasons_that_hold_at_onc) (n := 63) (k := 10) (x := "_law_script") rfl (by decide) rfl ⟨rfl, by decide, by decide⟩ (fun w h Y => PySem.W.kIn_of Y) ?F
  intro w mg fa h KX G hmg
  refine' Lk12.all_mk KX G hmg ?a0 ?l0 ?c0 ?k0 ?a1 ?l1 ?c1 ?k1 ?a2 ?l2 ?c2 ?k2 ?a3 ?l3 ?c3 ?k3 ?a4 ?l4 ?c4 ?k4 ?a5 ?l5 ?c5 ?k5 ?a6 ?l6 ?c6 ?k6 ?a7 ?l7 ?c7 ?k7 ?a8 ?l8 ?c8 ?k8 ?a9 ?l9 ?c9 ?k9 ?a10 ?l10 ?c10 ?k10 ?a11 ?l11 ?c11 ?k11 ?a12 ?l12 ?c12 ?k12 ?a13 ?l13 ?c13 ?k13 ?a14 ?l14 ?c14 ?k14 ?zc_Cause ?zk_Cause ?zp_Cause ?zh_Cause ?zo_Cause ?zs_Cause ?zm_Cause ?zn_Cause_person ?zn_Cause_deed ?zn_Cause_town ?zn_Cause_word ?zn_Cause_since ?zn_Cause_spent ?zn_Cause_past ?zn_Cause_pledger ?zn_Cause_puts ?zn_Cause_until ?zn_Cause_by ?a15 ?l15 ?c15 ?k15 ?i15 ?a16 ?l16 ?c16 ?k16 ?i16 ?a17 ?l17 ?c17 ?k17 ?i17 ?a18 ?l18 ?c18 ?k18 ?i18 ?a19 ?l19 ?c19 ?k19 ?i19 ?a20 ?l20 ?c20 ?k20 ?i20 ?zc_Reading ?zk_Reading ?zp_Reading ?zh_Reading ?zo_Reading ?zs_Reading ?zm_Reading ?zn_Reading_bench ?zn_Reading_struck ?zn_Reading_done ?zn_Reading_causes ?zn_Reading_pardons ?zn_Reading_words ?zn_Reading_lost ?zn_Reading_strike ?a21 ?l21 ?c21 ?k21 ?i21 ?a22 ?l22 ?c22 ?k22 ?i22 ?a23 ?l23 ?c23 ?k23 ?i23 ?a24 ?l24 ?c24 ?k24 ?i24 ?a25 ?l25 ?c25 ?k25 ?i25 ?a26 ?l26 ?c26 ?k26 ?i26 ?a27 ?l27 ?c27 ?k27 ?i27 ?a28 ?l28 ?c28 ?k28 ?i28 ?a29 ?l29 ?c29 ?k29 ?i29 ?a30 ?l30 ?c30 ?k30 ?i30 ?a31 ?l31 ?c31 ?k31 ?i31 ?a32 ?l32 ?c32 ?k32 ?i32 ?a33 ?l33 ?c33 ?k33 ?i33 ?a34 ?l34 ?c34 ?k34 ?i34 ?a35 ?l35 ?c35 ?k35 ?i35 ?a36 ?l36 ?c36 ?k36 ?a37 ?l37 ?c37 ?k37 ?a38 ?l38 ?c38 ?k38 ?a39 ?l39 ?c39 ?k39 ?a40 ?l40 ?c40 ?k40 ?a41 ?l41 ?c41 ?k41 ?a42 ?l42 ?c42 ?k42 ?a43 ?l43 ?c43 ?k43 ?a44 ?l44 ?c44 ?k44 ?a45 ?l45 ?c45 ?k45 ?a46 ?l46 ?c46 ?k46 ?a47 ?l47 ?c47 ?k47 ?a48 ?l48 ?c48 ?k48 ?a49 ?l49 ?c49 ?k49 ?a50 ?l50 ?c50 ?k50 ?a51 ?l51 ?c51 ?k51 ?a52 ?l52 ?c52 ?k52 ?a53 ?l53 ?c53 ?k53 ?a54 ?l54 ?c54 ?k54 ?a55 ?l55 ?c55 ?k55 ?a56 ?l56 ?c56 ?k56 ?a57 ?l57 ?c57 ?k57 ?z_all ?z_bool ?z_divmod ?z_int ?z_isinstance ?z_len ?z_list ?z_max ?z_min ?z_range ?z_repr ?z_set ?z_sorted ?z_str ?z_tuple ?z_zip ?z_DAYS ?z_FORMS ?ld_FORMS ?sy_FORMS ?lq2 ?lq8 ?lq12 ?lq15 ?lq19 ?lq22 ?lq25 ?lq29 ?lq33 ?lq37 ?z_JUDGED ?lq39 ?z_MOST_PAPERS ?z_MOST_SITTINGS ?z_OPEN ?lq42 ?z_TAKES ?z_TOWNS
  (case a0 => k_is)
  (case l0 => k_is)
  (case c0 => k_is)
  (case k0 => k_is)
  (case a1 => k_is)
  (case l1 => k_is)
  (case c1 => k_is)
  (case k1 => k_is)
  (case a2 => k_is)
  (case l2 => k_is)
  (case c2 => k_is)
  (case k2 => k_is)
  (case a3 => k_is)
  (case l3 => k_is)
  (case c3 => k_is)
  (case k3 => k_is)
  (case a4 => k_is)
  (case l4 => k_is)
  (case c4 => k_is)
  (case k4 => k_is)
  (case a5 => k_is)
  (case l5 => k_is)
  (case c5 => k_is)
  (case k5 => k_is)
  (case a6 => k_is)
  (case l6 => k_is)
  (case c6 => k_is)
  (case k6 => k_is)
  (case a7 => k_is)
  (case l7 => k_is)
  (case c7 => k_is)
  (case k7 => k_is)
  (case a8 => k_is)
  (case l8 => k_is)
  (case c8 => k_is)
  (case k8 => k_is)
  (case a9 => k_is)
  (case l9 => k_is)
  (case c9 => k_is)
  (case k9 => k_is)
  (case a10 => k_is)
  (case l10 => k_is)
  (case c10 => k_is)
  (case k10 => k_is)
  (case a11 => k_is)
  (case l11 => k_is)
  (case c11 => k_is)
  (case k11 => k_is)
  (case a12 => k_is)
  (case l12 => k_is)
  (case c12 => k_is)
  (case k12 => k_is)
  (case a13 => k_is)
  (case l13 => k_is)
  (case c13 => k_is)
  (case k13 => k_is)
  (case a14 => k_is)
  (case l14 => k_is)
  (case c14 => k_is)
  (case k14 => k_is)
  (case zc_Cause => k_is)
  (case zk_Cause => k_is)
  (case zp_Cause => k_is)
  (case zh_Cause => k_is)
  (case zo_Cause => k_is)
  (case zs_Cause => k_is)
  (case zm_Cause => k_is)
  (case zn_Cause_person => k_is)
  (case zn_Cause_deed => k_is)
  (case zn_Cause_town => k_is)
  (case zn_Cause_word => k_is)
  (case zn_Cause_since => k_is)
  (case zn_Cause_spent => k_is)
  (case zn_Cause_past => k_is)
  (case zn_Cause_pledger => k_is)
  (case zn_Cause_puts => k_is)
  (case zn_Cause_until => k_is)
  (case zn_Cause_by => k_is)
  (case a15 => k_is)
  (case l15 => k_is)
  (case c15 => k_is)
  (case k15 => k_is)
  (case i15 => k_is)
  (case a16 => k_is)
  (case l16 => k_is)
  (case c16 => k_is)
  (case k16 => k_is)
  (case i16 => k_is)
  (case a17 => k_is)
  (case l17 => k_is)
  (case c17 => k_is)
  (case k17 => k_is)
  (case i17 => k_is)
  (case a18 => k_is)
  (case l18 => k_is)
  (case c18 => k_is)
  (case k18 => k_is)
  (case i18 => k_is)
  (case a19 => k_is)
  (case l19 => k_is)
  (case c19 => k_is)
  (case k19 => k_is)
  (case i19 => k_is)
  (case a20 => k_is)
  (case l20 => k_is)
  (case c20 => k_is)
  (case k20 => k_is)
  (case i20 => k_is)
  (case zc_Reading => k_is)
  (case zk_Reading => k_is)
  (case zp_Reading => k_is)
  (case zh_Reading => k_is)
  (case zo_Reading => k_is)
  (case zs_Reading => k_is)
  (case zm_Reading => k_is)
  (case zn_Reading_bench => k_is)
  (case zn_Reading_struck => k_is)
  (case zn_Reading_done => k_is)
  (case zn_Reading_causes => k_is)
  (case zn_Reading_pardons => k_is)
  (case zn_Reading_words => k_is)
  (case zn_Reading_lost => k_is)
  (case zn_Reading_strike => k_is)
  (case a21 => k_is)
  (case l21 => k_is)
  (case c21 => k_is)
  (case k21 => k_is)
  (case i21 => k_is)
  (case a22 => k_is)
  (case l22 => k_is)
  (case c22 => k_is)
  (case k22 => k_is)
  (case i22 => k_is)
  (case a23 => k_is)
  (case l23 => k_is)
  (case c23 => k_is)
  (case k23 => k_is)
  (case i23 => k_is)
  (case a24 => k_is)
  (case l24 => k_is)
  (case c24 => k_is)
  (case k24 => k_is)
  (case i24 => k_is)
  (case a25 => k_is)
  (case l25 => k_is)
  (case c25 => k_is)
  (case k25 => k_is)
  (case i25 => k_is)
  (case a26 => k_is)
  (case l26 => k_is)
  (case c26 => k_is)
  (case k26 => k_is)
  (case i26 => k_is)
  (case a27 => k_is)
  (case l27 => k_is)
  (case c27 => k_is)
  (case k27 => k_is)
  (case i27 => k_is)
  (case a28 => k_is)
  (case l28 => k_is)
  (case c28 => k_is)
  (case k28 => k_is)
  (case i28 => k_is)
  (case a29 => k_is)
  (case l29 => k_is)
  (case c29 => k_is)
  (case k29 => k_is)
  (case i29 => k_is)
  (case a30 => k_is)
  (case l30 => k_is)
  (case c30 => k_is)
  (case k30 => k_is)
  (case i30 => k_is)
  (case a31 => k_is)
  (case l31 => k_is)
  (case c31 => k_is)
  (case k31 => k_is)
  (case i31 => k_is)
  (case a32 => k_is)
  (case l32 => k_is)
  (case c32 => k_is)
  (case k32 => k_is)
  (case i32 => k_is)
  (case a33 => k_is)
  (case l33 => k_is)
  (case c33 => k_is)
  (case k33 => k_is)
  (case i33 => k_is)
  (case a34 => k_is)
  (case l34 => k_is)
  (case c34 => k_is)
  (case k34 => k_is)
  (case i34 => k_is)
  (case a35 => k_is)
  (case l35 => k_is)
  (case c35 => k_is)
  (case k35 => k_is)
  (case i35 => k_is)
  (case a36 => k_is)
  (case l36 => k_is)
  (case c36 => k_is)
  (case k36 => k_is)
  (case a37 => k_is)
  (case l37 => k_is)
  (case c37 => k_is)
  (case k37 => k_is)
  (case a38 => k_is)
  (case l38 => k_is)
  (case c38 => k_is)
  (case k38 => k_is)
  (case a39 => k_is)
  (case l39 => k_is)
  (case c39 => k_is)
  (case k39 => k_is)
  (case a40 => k_is)
  (case l40 => k_is)
  (case c40 => k_is)
  (case k40 => k_is)
  (case a41 => k_is)
  (case l41 => k_is)
  (case c41 => k_is)
  (case k41 => k_is)
  (case a42 => k_is)
  (case l42 => k_is)
  (case c42 => k_is)
  (case k42 => k_is)
  (case a43 => k_is)
  (case l43 => k_is)
  (case c43 => k_is)
  (case k43 => k_is)
  (case a44 => k_is)
  (case l44 => k_is)
  (case c44 => k_is)
  (case k44 => k_is)
  (case a45 => k_is)
  (case l45 => k_is)
  (case c45 => k_is)
  (case k45 => k_is)
  (case a46 => k_is)
  (case l46 => k_is)
  (case c46 => k_is)
  (case k46 => k_is)
  (case a47 => k_is)
  (case l47 => k_is)
  (case c47 => k_is)
  (case k47 => k_is)
  (case a48 => k_is)
  (case l48 => k_is)
  (case c48 => k_is)
  (case k48 => k_is)
  (case a49 => k_is)
  (case l49 => k_is)
  (case c49 => k_is)
  (case k49 => k_is)
  (case a50 => k_is)
  (case l50 => k_is)
  (case c50 => k_is)
  (case k50 => k_is)
  (case a51 => k_is)
  (case l51 => k_is)
  (case c51 => k_is)
  (case k51 => k_is)
  (case a52 => k_is)
  (case l52 => k_is)
  (case c52 => k_is)
  (case k52 => k_is)
  (case a53 => k_is)
  (case l53 => k_is)
  (case c53 => k_is)
  (case k53 => k_is)
  (case a54 => k_is)
  (case l54 => k_is)
  (case c54 => k_is)
  (case k54 => k_is)
  (case a55 => k_is)
  (case l55 => k_is)
  (case c55 => k_is)
  (case k55 => k_is)
  (case a56 => k_is)
  (case l56 => k_is)
  (case c56 => k_is)
  (case k56 => k_is)
  (case a57 => k_is)
  (case l57 => k_is)
  (case c57 => k_is)
  (case k57 => k_is)
  (case z_all => k_is)
  (case z_bool => k_is)
  (case z_divmod => k_is)
  (case z_int => k_is)
  (case z_isinstance => k_is)
  (case z_len => k_is)
  (case z_list => k_is)
  (case z_max => k_is)
  (case z_min => k_is)
  (case z_range => k_is)
  (case z_repr => k_is)
  (case z_set => k_is)
  (case z_sorted => k_is)
  (case z_str => k_is)
  (case z_tuple => k_is)
  (case z_zip => k_is)
  (case z_DAYS => k_is)
  (case z_FORMS => k_is)
  (case ld_FORMS => k_is)
  (case sy_FORMS => rfl)
  (case lq2 => k_is)
  (case lq8 => k_is)
  (case lq12 => k_is)
  (case lq15 => k_is)
  (case lq19 => k_is)
  (case lq22 => k_is)
  (case lq25 => k_is)
  (case lq29 => k_is)
  (case lq33 => k_is)
  (case lq37 => k_is)
  (case z_JUDGED => k_is)
  (case lq39 => k_is)
  (case z_MOST_PAPERS => k_is)
  (case z_MOST_SITTINGS => k_is)
  (case z_OPEN => k_is)
  (case lq42 => k_is)
  (case z_TAKES => k_is)
  (case z_TOWNS => k_is)
