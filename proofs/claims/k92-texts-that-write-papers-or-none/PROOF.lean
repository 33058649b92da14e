import PyProof.Rows.All
import Wide.All
import OpenK.AllK
import Wide.FinOn
import HandS.ForMost
import HandS.ForExc
import HandS.Walk
import HandS.CallSlots
import HandS.Zip
import HandS.IsInst
import HandS.TupAny
import HandS.Style
import HandS.Flow
import HandS.Lambda
import KE.DataEq
import KE.DataCmp
import KE.DataAny
import KE.DataIsa
import HandS.TupMul
import PyProof.ReprRoads
import HandS.Ends
import PyProof.ReprLen
import HandS.Strs
import HandS.SetFor
import KE.GoesEnum
import HandS.Iter
import HandS.ExcOwn
import HandS.ExcIs
import HandS.HotCalls
import HandS.EndOwn
import HandS.Conv
import HandS.TupSets
import KE.KDictKeyed
import KE.SortData
import PyProof.DictUpdate
import KE.GoesZip
import KE.DataFind
import HandS.SortInts
import PyProof.TupleOfSeq
import HandS.Rev
import HandS.Dict
import HandS.DictComp
import KE.KDictWalk
import PyProof.SeqIndex
import HandS.More
import HandS.Text
import PyProof.Rows.StrMeet
import HandS.RaiseMore
import PyProof.NeKinds
import HandS.ExcInit
import HandS.ExcField
import HandS.ExcValue
import KE.KExcIs
import PySem.Challenge.RW_ridingbench_k92_texts_that_write_papers
set_option Elab.async false
set_option linter.all false
set_option maxRecDepth 100000
set_option maxHeartbeats 8000000
/-! Z1: data trees over the hand layer: values (D), the store (C), what stands for what (VR, SR, ER), answers (R), and how readings follow. -/
namespace Z
open PySem L2

/-- a thing: plain data as a tree; a changing thing by its place in the store -/
inductive D where
  | non | bl (b : Bool) | int (i : Int) | str (x : Str) | tup (ds : List D) | ktup (ds : List D) | lst (ds : List D) | scr (ds : List D) | dct (ks : List Key) (ds : List D) | loc (l : Nat) | ob (v : V) | fn (n : Str)
/-- a changing thing; a dict may be locked while a loop walks it -/
inductive C where
  | lst (ds : List D) | dK (lk : Bool) (kvs : List (Key × D)) | dT (lk : Bool) (kvs : List (List Key × D)) | ins (c : Str) (fs : List (Str × D)) | tab (P : Addr) (q : Str)
abbrev Sto := List C
abbrev Tau := List (Option D)

inductive R (A : Type) where
  | ok (a : A) (S : Sto) | ex (c : Str) (fs : List (Str × D)) (S : Sto) | bad
def R.bind {A B : Type} (o : R A) (f : A → Sto → R B) : R B := match o with
  | .ok a S => f a S
  | .ex c fs S => .ex c fs S
  | .bad => .bad
@[simp] theorem R.bind_ok {A B : Type} (a : A) (S : Sto) (f : A → Sto → R B) : (R.ok a S).bind f = f a S := rfl
@[simp] theorem R.bind_ex {A B : Type} (c fs) (S : Sto) (f : A → Sto → R B) : (R.ex c fs S).bind f = .ex c fs S := rfl
@[simp] theorem R.bind_bad {A B : Type} (f : A → Sto → R B) : (R.bad).bind f = .bad := rfl

/-- the addresses of the changing things: the store's by place; those that a comprehension under way fills -/
structure Pl where
  loc : List Addr
  hid : List Addr
instance : Membership Addr Pl := ⟨fun p a => a ∈ p.loc ∨ a ∈ p.hid⟩
theorem Pl.mem {ρ : Pl} {a : Addr} : a ∈ ρ ↔ a ∈ ρ.loc ∨ a ∈ ρ.hid := Iff.rfl
def Pl.push (ρ : Pl) (p : Addr) : Pl := ⟨ρ.loc ++ [p], ρ.hid⟩
def Pl.hide (ρ : Pl) (p : Addr) : Pl := ⟨ρ.loc, p :: ρ.hid⟩
def Pl.bare (ρ : Pl) (p : Addr) : Pl := ⟨ρ.loc, ρ.hid.filter fun a => decide (a ≠ p)⟩
theorem Pl.bare_sub {ρ : Pl} {p a : Addr} (h : a ∈ ρ.bare p) : a ∈ ρ := h.imp id fun z => (List.mem_filter.mp z).1
mutual
inductive VR (K : PySem.W.Frag) (ρ : Pl) (H : Hp) : V → D → Prop
  | non : VR K ρ H .non .non
  | bl (b : Bool) : VR K ρ H (.bl b) (.bl b)
  | int (i : Int) : VR K ρ H (.int i) (.int i)
  | str (x : Str) : VR K ρ H (.str x) (.str x)
  | tup {a : Addr} {xs : List V} {ds : List D} : H a = some (.tup xs) → a ∉ ρ → VRs K ρ H xs ds → VR K ρ H (.ref a) (.tup ds)
  | ktup {a : Addr} {xs : List V} {ds : List D} : (∀ H', SqT K H' a xs) → VRs K ρ H xs ds → VR K ρ H (.ref a) (.ktup ds)
  | lst {a : Addr} {xs : List V} {ds : List D} : H a = some (.lst xs) → a ∉ ρ → VRs K ρ H xs ds → VR K ρ H (.ref a) (.lst ds)
  | scr {a : Addr} {xs : List V} {ds : List D} : ((∃ o, H a = some (.frz o (.lst xs)) ∧ a ∉ ρ) ∨ ∀ H', SqL K H' a xs) → VRs K ρ H xs ds → VR K ρ H (.ref a) (.scr ds)
  | dct {a : Addr} {ws : List (Key × V)} {ks : List Key} {ds : List D} : H a = some (.dK ws) → a ∉ ρ → ws.map (·.1) = ks → VRs K ρ H (ws.map (·.2)) ds → VR K ρ H (.ref a) (.dct ks ds)
  | loc {a : Addr} {l : Nat} : ρ.loc[l]? = some a → VR K ρ H (.ref a) (.loc l)
  | ob (v : V) : VR K ρ H v (.ob v)
  | fn {a : Addr} {n : Str} : PySem.W.nsIn K mainGlobals n = some (some (.ref a)) → VR K ρ H (.ref a) (.fn n)
inductive VRs (K : PySem.W.Frag) (ρ : Pl) (H : Hp) : List V → List D → Prop
  | nil : VRs K ρ H [] []
  | cons {v : V} {vs : List V} {d : D} {ds : List D} : VR K ρ H v d → VRs K ρ H vs ds → VRs K ρ H (v :: vs) (d :: ds)
end
/-- pairs with keys -/
inductive KR {κ : Type} (P : V → D → Prop) : List (κ × V) → List (κ × D) → Prop
  | nil : KR P [] []
  | cons {k : κ} {v : V} {d : D} {vs : List (κ × V)} {ds : List (κ × D)} : P v d → KR P vs ds → KR P ((k, v) :: vs) ((k, d) :: ds)

/-- no table of code objects; nothing is tracked but such a table -/
def NT (o : HO) : Prop := ∀ ps, o ≠ .tbl ps
def FrT (H : Hp) (b : Addr) : Prop := ∀ o, H b = some o → ∃ ps, o = .tbl ps
theorem FrT.none {H : Hp} {b : Addr} (h : H b = none) : FrT H b := fun o e => by rw [h] at e; cases e
/-- neither table nor code object -/
def NH (o : HO) : Prop := NT o ∧ ∀ c q, o ≠ LamX.CodeO c q
theorem FrT.no {H : Hp} {b : Addr} {o : HO} (f : FrT H b) (e : H b = some o) (n : NT o) : False := by
  obtain ⟨ps, z⟩ := f o e
  exact n ps z
theorem nt_code {c : Addr} {q : Str} : NT (LamX.CodeO c q) := fun ps z => by
  unfold LamX.CodeO at z; cases z
/-- a class of the program by its name -/
def clsAt (K : PySem.W.Frag) (c : Str) : Value := match PySem.W.nsIn K mainGlobals c with
  | some (some v) => v
  | _ => .none
/-- a later heap, more places: what was tracked and is no changing thing of the store stands -/
structure Ext (ρ : Pl) (H : Hp) (ρ' : Pl) (H' : Hp) : Prop where
  pre : ∃ r, ρ'.loc = ρ.loc ++ r
  hid : ∀ p ∈ ρ.hid, p ∈ ρ'.hid
  newL : ∀ p ∈ ρ'.loc, p ∈ ρ.loc ∨ FrT H p
  newH : ∀ p ∈ ρ'.hid, p ∈ ρ.hid ∨ FrT H p
  keep : ∀ b o, H b = some o → NT o → b ∉ ρ.loc → H' b = some o
  live : ∀ b, FrT H' b → FrT H b
  frz : ∀ b o u, H b = some (.frz o u) → H' b = some (.frz o u)
/-- no thing that is locked -/
def NF (H : Hp) (p : Addr) : Prop := ∀ o u, H p ≠ some (.frz o u)
theorem NF.of {H : Hp} {p : Addr} {x : HO} (h : H p = some x) (n : ∀ o u, x ≠ .frz o u := by (intro o u z; cases z)) : NF H p := fun o u e => by
  rw [h] at e; exact n o u (Option.some.inj e)
theorem NF.none {H : Hp} {p : Addr} (h : H p = none) : NF H p := fun o u e => by rw [h] at e; cases e

section
variable {K : PySem.W.Frag} {ρ ρ' ρ'' : Pl} {H H' H'' : Hp} {S S' : Sto} {σ : St} {τ : Tau}
theorem Ext.refl : Ext ρ H ρ H := ⟨⟨[], by simp⟩, fun _ h => h, fun _ h => .inl h, fun _ h => .inl h, fun _ _ h _ _ => h, fun _ h => h, fun _ _ _ h => h⟩
theorem Ext.outL (e : Ext ρ H ρ' H') {b : Addr} {o : HO} (h : H b = some o) (hb : b ∉ ρ.loc) (n : NT o := by (intro ps z; cases z)) : b ∉ ρ'.loc := fun q => by
  rcases e.newL b q with z | z
  · exact hb z
  · exact z.no h n
theorem Ext.out (e : Ext ρ H ρ' H') {b : Addr} {o : HO} (h : H b = some o) (hb : b ∉ ρ) (n : NT o := by (intro ps z; cases z)) : b ∉ ρ' := fun q => by
  rcases q with q | q
  · exact e.outL h (fun z => hb (.inl z)) n q
  · rcases e.newH b q with z | z
    · exact hb (.inr z)
    · exact z.no h n
theorem Ext.trans (a : Ext ρ H ρ' H') (b : Ext ρ' H' ρ'' H'') : Ext ρ H ρ'' H'' where
  pre := by
    obtain ⟨r, e⟩ := a.pre
    obtain ⟨q, e2⟩ := b.pre
    exact ⟨r ++ q, by rw [e2, e]; simp⟩
  hid := fun p h => b.hid p (a.hid p h)
  newL := fun p hp => (b.newL p hp).elim (a.newL p) fun z => .inr (a.live p z)
  newH := fun p hp => (b.newH p hp).elim (a.newH p) fun z => .inr (a.live p z)
  keep := fun c o h n hc => b.keep c o (a.keep c o h n hc) n (a.outL h hc n)
  live := fun c h => a.live c (b.live c h)
  frz := fun c o u h => b.frz c o u (a.frz c o u h)
theorem Ext.get (e : Ext ρ H ρ' H') {l : Nat} {a : Addr} (h : ρ.loc[l]? = some a) : ρ'.loc[l]? = some a := by
  obtain ⟨r, e1⟩ := e.pre
  rw [e1, List.getElem?_append_left (List.getElem?_eq_some_iff.mp h).1]; exact h
theorem Ext.kp (e : Ext ρ H ρ' H') {b : Addr} {o : HO} (h : H b = some o) (hb : b ∉ ρ) (n : NT o := by (intro ps z; cases z)) : H' b = some o := e.keep b o h n fun z => hb (.inl z)
mutual
theorem VR.mono (e : Ext ρ H ρ' H') : ∀ {v : V} {d : D}, VR K ρ H v d → VR K ρ' H' v d
  | _, _, .non => .non
  | _, _, .bl b => .bl b
  | _, _, .int i => .int i
  | _, _, .str x => .str x
  | _, _, .tup h h2 hs => .tup (e.kp h h2) (e.out h h2) (VRs.mono e hs)
  | _, _, .ktup h hs => .ktup h (VRs.mono e hs)
  | _, _, .lst h h2 hs => .lst (e.kp h h2) (e.out h h2) (VRs.mono e hs)
  | _, _, .scr h hs => .scr (h.imp (fun ⟨o, h1, h2⟩ => ⟨o, e.kp h1 h2, e.out h1 h2⟩) id) (VRs.mono e hs)
  | _, _, .dct h h2 hk hs => .dct (e.kp h h2) (e.out h h2) hk (VRs.mono e hs)
  | _, _, .loc h => .loc (e.get h)
  | _, _, .ob v => .ob v
  | _, _, .fn h => .fn h
theorem VRs.mono (e : Ext ρ H ρ' H') : ∀ {vs : List V} {ds : List D}, VRs K ρ H vs ds → VRs K ρ' H' vs ds
  | _, _, .nil => .nil
  | _, _, .cons h hs => .cons (VR.mono e h) (VRs.mono e hs)
end
theorem VRs.length : ∀ {vs : List V} {ds : List D}, VRs K ρ H vs ds → vs.length = ds.length
  | _, _, .nil => rfl
  | _, _, .cons _ hs => by simp [VRs.length hs]
theorem VRs.get : ∀ {vs : List V} {ds : List D} {i : Nat} {d : D}, VRs K ρ H vs ds → ds[i]? = some d → ∃ v, vs[i]? = some v ∧ VR K ρ H v d
  | _, _, _, _, .nil, e => by simp at e
  | _, _, 0, _, .cons h _, e => by simp at e; subst e; exact ⟨_, rfl, h⟩
  | _, _, i + 1, d, .cons _ hs, e => by
    obtain ⟨v, h1, h2⟩ := VRs.get (i := i) (d := d) hs (by simpa using e)
    exact ⟨v, by simpa using h1, h2⟩
theorem VRs.getV : ∀ {vs : List V} {ds : List D} {i : Nat} {v : V}, VRs K ρ H vs ds → vs[i]? = some v → ∃ d, ds[i]? = some d ∧ VR K ρ H v d
  | _, _, _, _, .nil, e => by simp at e
  | _, _, 0, _, .cons h _, e => by simp at e; subst e; exact ⟨_, rfl, h⟩
  | _, _, i + 1, v, .cons _ hs, e => by
    obtain ⟨d, h1, h2⟩ := VRs.getV (i := i) (v := v) hs (by simpa using e)
    exact ⟨d, by simpa using h1, h2⟩
theorem VRs.append : ∀ {vs ws : List V} {ds es : List D}, VRs K ρ H vs ds → VRs K ρ H ws es → VRs K ρ H (vs ++ ws) (ds ++ es)
  | _, _, _, _, .nil, h => h
  | _, _, _, _, .cons h hs, g => .cons h (VRs.append hs g)
theorem VRs.take : ∀ {vs : List V} {ds : List D} (n : Nat), VRs K ρ H vs ds → VRs K ρ H (vs.take n) (ds.take n)
  | _, _, 0, _ => .nil
  | _, _, _ + 1, .nil => .nil
  | _, _, n + 1, .cons h hs => .cons h (VRs.take n hs)
theorem VRs.drop : ∀ {vs : List V} {ds : List D} (n : Nat), VRs K ρ H vs ds → VRs K ρ H (vs.drop n) (ds.drop n)
  | _, _, 0, h => h
  | _, _, _ + 1, .nil => .nil
  | _, _, n + 1, .cons _ hs => VRs.drop n hs
theorem VRs.set {x : V} {d : D} (r : VR K ρ H x d) : ∀ {vs : List V} {ds : List D} (n : Nat), VRs K ρ H vs ds → VRs K ρ H (vs.set n x) (ds.set n d)
  | _, _, _, .nil => .nil
  | _, _, 0, .cons _ hs => .cons r hs
  | _, _, n + 1, .cons h hs => .cons h (VRs.set r n hs)
theorem VRs.reverse {vs : List V} {ds : List D} (h : VRs K ρ H vs ds) : VRs K ρ H vs.reverse ds.reverse := by
  have g : ∀ (vs ws : List V) (ds es : List D), VRs K ρ H vs ds → VRs K ρ H ws es → VRs K ρ H (vs.reverseAux ws) (ds.reverseAux es) := by
    intro vs
    induction vs with
    | nil => intro ws ds es h g; cases h; exact g
    | cons a r ih => intro ws ds es h g; cases h with | cons h hs => exact (ih _ _ _ hs (.cons h g) :)
  exact g _ _ _ _ h .nil
theorem VRs.map_int (ns : List Int) : VRs K ρ H (ns.map V.int) (ns.map D.int) := by
  induction ns with
  | nil => exact .nil
  | cons a r ih => exact .cons (.int a) ih
theorem VRs.of_int : ∀ {vs : List V} {ns : List Int}, VRs K ρ H vs (ns.map D.int) → vs = ns.map V.int
  | _, [], .nil => rfl
  | _, n :: r, .cons (.int _) hs => by rw [VRs.of_int hs]; rfl
theorem KR.length {κ : Type} {P : V → D → Prop} : ∀ {vs : List (κ × V)} {ds : List (κ × D)}, KR P vs ds → vs.length = ds.length
  | _, _, .nil => rfl
  | _, _, .cons _ hs => by simp [KR.length hs]
theorem KR.mono {κ : Type} {P P' : V → D → Prop} (e : ∀ v d, P v d → P' v d) : ∀ {vs : List (κ × V)} {ds : List (κ × D)}, KR P vs ds → KR P' vs ds
  | _, _, .nil => .nil
  | _, _, .cons h hs => .cons (e _ _ h) (KR.mono e hs)

/-- the table of code objects at P: each bears the name q, and is no changing thing of the store -/
def TabN (ρ : Pl) (H : Hp) (P : Addr) (q : Str) : Prop := ∃ ps : Array Value, H P = some (.tbl ps) ∧ TriplesOk ps.toList ∧ ∀ (pos : Pos) (cv : Value), codeAmong pos ps.toList = some cv → ∃ c, cv = .ref c ∧ H c = some (LamX.CodeO c q) ∧ c ∉ ρ
theorem TabN.imp {P : Addr} {q : Str} (t : TabN ρ H P q) (hP : H' P = H P) (k : ∀ c o, H c = some o → NT o → c ∉ ρ → H' c = some o ∧ c ∉ ρ') : TabN ρ' H' P q := by
  obtain ⟨ps, h1, h2, h3⟩ := t
  refine ⟨ps, hP.trans h1, h2, fun pos cv e => ?_⟩
  obtain ⟨c, e1, e2, e3⟩ := h3 pos cv e
  obtain ⟨k1, k2⟩ := k c _ e2 nt_code e3
  exact ⟨c, e1, k1, k2⟩
/-- what a cell says of the thing at a -/
def CR (K : PySem.W.Frag) (ρ : Pl) (H : Hp) (a : Addr) : C → Prop
  | .lst ds => ∃ xs, H a = some (.lst xs) ∧ VRs K ρ H xs ds
  | .dK false kvs => ∃ ws, H a = some (.dK ws) ∧ KR (VR K ρ H) ws kvs
  | .dK true kvs => ∃ o ws, H a = some (.frz o (.dK ws)) ∧ KR (VR K ρ H) ws kvs
  | .dT false kvs => ∃ ws, H a = some (.dT ws) ∧ KR (VR K ρ H) ws kvs
  | .dT true kvs => ∃ o ws, H a = some (.frz o (.dT ws)) ∧ KR (VR K ρ H) ws kvs
  | .ins c fs => ∃ C dx ws, clsAt K c = .ref C ∧ H a = some (.ins C dx ws) ∧ KR (VR K ρ H) ws fs
  | .tab P q => a = P ∧ TabN ρ H P q
structure SR (K : PySem.W.Frag) (ρ : Pl) (S : Sto) (H : Hp) : Prop where
  len : ρ.loc.length = S.length
  nd : ρ.loc.Nodup
  hd : ∀ a ∈ ρ.hid, a ∉ ρ.loc ∧ ∃ o, H a = some o ∧ NH o
  cell : ∀ (l : Nat) c, S[l]? = some c → ∃ a, ρ.loc[l]? = some a ∧ CR K ρ H a c
def ER (K : PySem.W.Frag) (ρ : Pl) (H : Hp) (τ : Tau) (σ : St) : Prop := τ.length = σ.length ∧ ∀ (i : Nat) d, τ[i]? = some (some d) → ∃ v, σ[i]? = some (some v) ∧ VR K ρ H v d

theorem CR.isSome {a : Addr} {c : C} (h : CR K ρ H a c) : ∃ o, H a = some o := by
  cases c with
  | lst ds => obtain ⟨xs, h, _⟩ := h; exact ⟨_, h⟩
  | dK lk kvs =>
    cases lk
    · obtain ⟨ws, h, _⟩ := h; exact ⟨_, h⟩
    · obtain ⟨o, ws, h, _⟩ := h; exact ⟨_, h⟩
  | dT lk kvs =>
    cases lk
    · obtain ⟨ws, h, _⟩ := h; exact ⟨_, h⟩
    · obtain ⟨o, ws, h, _⟩ := h; exact ⟨_, h⟩
  | ins cc fs => obtain ⟨C, dx, ws, _, h, _⟩ := h; exact ⟨_, h⟩
  | tab P q => obtain ⟨rfl, ps, h, _⟩ := h; exact ⟨_, h⟩
theorem CR.mono (e : Ext ρ H ρ' H') {a : Addr} {c : C} (h : CR K ρ H a c) (ha : H' a = H a) : CR K ρ' H' a c := by
  have e0 := e
  have m : ∀ v d, VR K ρ H v d → VR K ρ' H' v d := fun _ _ => VR.mono e
  cases c with
  | lst ds => obtain ⟨xs, h, g⟩ := h; exact ⟨xs, ha.trans h, VRs.mono e g⟩
  | dK lk kvs =>
    cases lk
    · obtain ⟨ws, h, g⟩ := h; exact ⟨ws, ha.trans h, g.mono m⟩
    · obtain ⟨o, ws, h, g⟩ := h; exact ⟨o, ws, ha.trans h, g.mono m⟩
  | dT lk kvs =>
    cases lk
    · obtain ⟨ws, h, g⟩ := h; exact ⟨ws, ha.trans h, g.mono m⟩
    · obtain ⟨o, ws, h, g⟩ := h; exact ⟨o, ws, ha.trans h, g.mono m⟩
  | ins cc fs => obtain ⟨C, dx, ws, hc, h, g⟩ := h; exact ⟨C, dx, ws, hc, ha.trans h, g.mono m⟩
  | tab P q => obtain ⟨rfl, h⟩ := h; exact ⟨rfl, h.imp ha fun c o e n z => ⟨e0.kp e z n, e0.out e z n⟩⟩
theorem SR.memL (r : SR K ρ S H) {a : Addr} (h : a ∈ ρ.loc) : ∃ o, H a = some o := by
  obtain ⟨l, hl, e⟩ := List.getElem_of_mem h
  have hl' : l < S.length := by rw [← r.len]; exact hl
  obtain ⟨b, h1, h2⟩ := r.cell l S[l] (by simp [hl'])
  have : b = a := by
    rw [List.getElem?_eq_getElem hl, e] at h1; exact (Option.some.inj h1).symm
  subst this
  exact h2.isSome
theorem SR.mem (r : SR K ρ S H) {a : Addr} (h : a ∈ ρ) : ∃ o, H a = some o := by
  rcases h with h | h
  · exact r.memL h
  · obtain ⟨_, o, e, _⟩ := r.hd a h; exact ⟨o, e⟩
theorem SR.fresh (r : SR K ρ S H) {p : Addr} (h : H p = none) : p ∉ ρ := fun q => by
  obtain ⟨o, e⟩ := r.mem q
  rw [h] at e; cases e
theorem SR.at (r : SR K ρ S H) {l : Nat} {a : Addr} {c : C} (h : ρ.loc[l]? = some a) (hc : S[l]? = some c) : CR K ρ H a c := by
  obtain ⟨b, h1, h2⟩ := r.cell l c hc
  rw [h] at h1; cases h1; exact h2
theorem ER.mono (e : Ext ρ H ρ' H') (r : ER K ρ H τ σ) : ER K ρ' H' τ σ := ⟨r.1, fun i d h => let ⟨v, h1, h2⟩ := r.2 i d h; ⟨v, h1, h2.mono e⟩⟩
/-- a new thing laid that is none of the store's -/
theorem upd_live {p : Addr} {o : HO} (n : NT o) : ∀ b, FrT (upd H p o) b → FrT H b := fun b h => by
  by_cases z : b = p
  · subst z; exact (h.no upd_same n).elim
  · intro u e; exact h u (by rw [upd_ne z]; exact e)
theorem upd_live0 {p : Addr} {o : HO} (n : H p = none) : ∀ b, FrT (upd H p o) b → FrT H b := fun b h => by
  by_cases z : b = p
  · subst z; exact .none n
  · intro u e; exact h u (by rw [upd_ne z]; exact e)
theorem Ext.fresh {p : Addr} {o : HO} (h : H p = none) : Ext ρ H ρ (upd H p o) := ⟨⟨[], by simp⟩, fun _ h => h, fun _ q => .inl q, fun _ q => .inl q, fun b u e _ _ => by rw [upd_ne (ne_of_none e h)]; exact e, upd_live0 h, fun b o u e => by rw [upd_ne (ne_of_none e h)]; exact e⟩
theorem SR.laid (r : SR K ρ S H) {p : Addr} {o : HO} (h : H p = none) : SR K ρ S (upd H p o) := ⟨r.len, r.nd, fun a ha => ⟨(r.hd a ha).1, let ⟨u, hu, n⟩ := (r.hd a ha).2; ⟨u, by rw [upd_ne (ne_of_none hu h)]; exact hu, n⟩⟩, fun l c e => by
  obtain ⟨a, h1, h2⟩ := r.cell l c e
  obtain ⟨u, hu⟩ := h2.isSome
  exact ⟨a, h1, h2.mono (Ext.fresh h) (upd_ne (ne_of_none hu h))⟩⟩
/-- a new place -/
theorem Ext.push {p : Addr} {o : HO} (h : H p = none) : Ext ρ H (ρ.push p) (upd H p o) := ⟨⟨[p], rfl⟩, fun _ h => h, fun b q => by
  rcases List.mem_append.mp q with z | z
  · exact .inl z
  · have : b = p := by simpa using z
    subst this; exact .inr (.none h), fun _ q => .inl q, fun b u e _ _ => by rw [upd_ne (ne_of_none e h)]; exact e, upd_live0 h, fun b o u e => by rw [upd_ne (ne_of_none e h)]; exact e⟩
theorem SR.push (r : SR K ρ S H) {p : Addr} {o : HO} {c : C} (h : H p = none) (hc : CR K (ρ.push p) (upd H p o) p c) : SR K (ρ.push p) (S ++ [c]) (upd H p o) := by
  refine ⟨by simp [Pl.push, r.len], ?_, fun a ha => ?_, fun l d e => ?_⟩
  · show (ρ.loc ++ [p]).Nodup
    rw [List.nodup_append]
    refine ⟨r.nd, by simp, fun a ha b hb => ?_⟩
    have : b = p := by simpa using hb
    subst this
    rintro rfl
    exact r.fresh h (.inl ha)
  · obtain ⟨h1, u, hu, n'⟩ := r.hd a ha
    have hne : a ≠ p := ne_of_none hu h
    refine ⟨fun q => ?_, u, by rw [upd_ne hne]; exact hu, n'⟩
    rcases List.mem_append.mp (show a ∈ ρ.loc ++ [p] from q) with z | z
    · exact h1 z
    · exact hne (by simpa using z)
  · by_cases hl : l < S.length
    · rw [List.getElem?_append_left hl] at e
      obtain ⟨a, h1, h2⟩ := r.cell l d e
      obtain ⟨u, hu⟩ := h2.isSome
      exact ⟨a, (Ext.push (o := o) h).get h1, h2.mono (Ext.push h) (upd_ne (ne_of_none hu h))⟩
    · have e2 : l = S.length := by
        have := (List.getElem?_eq_some_iff.mp e).1
        simp at this; omega
      subst e2
      rw [List.getElem?_append_right (Nat.le_refl _)] at e
      simp at e
      subst e
      refine ⟨p, ?_, hc⟩
      show (ρ.loc ++ [p])[S.length]? = some p
      rw [← r.len, List.getElem?_append_right (Nat.le_refl _)]; simp
theorem Pl.push_get {p : Addr} (r : SR K ρ S H) : (ρ.push p).loc[S.length]? = some p := by
  show (ρ.loc ++ [p])[S.length]? = some p
  rw [← r.len, List.getElem?_append_right (Nat.le_refl _)]; simp
/-- a thing of the store changed -/
theorem Ext.set {l : Nat} {p : Addr} {o : HO} (h : ρ.loc[l]? = some p) (nf : NF H p) (n : NT o := by (intro ps z; cases z)) : Ext ρ H ρ (upd H p o) := ⟨⟨[], by simp⟩, fun _ h => h, fun _ q => .inl q, fun _ q => .inl q, fun b u e _ hb => by
  have : b ≠ p := by rintro rfl; exact hb (List.mem_of_getElem? h)
  rw [upd_ne this]; exact e, upd_live n, fun b q u e => by
  have : b ≠ p := by rintro rfl; exact nf _ _ e
  rw [upd_ne this]; exact e⟩
mutual
theorem VR.unhide {p : Addr} : ∀ {v : V} {d : D}, VR K ρ H v d → VR K (ρ.bare p) H v d
  | _, _, .non => .non
  | _, _, .bl b => .bl b
  | _, _, .int i => .int i
  | _, _, .str x => .str x
  | _, _, .tup h h2 hs => .tup h (fun z => h2 (Pl.bare_sub z)) (VRs.unhide hs)
  | _, _, .ktup h hs => .ktup h (VRs.unhide hs)
  | _, _, .lst h h2 hs => .lst h (fun z => h2 (Pl.bare_sub z)) (VRs.unhide hs)
  | _, _, .dct h h2 hk hs => .dct h (fun z => h2 (Pl.bare_sub z)) hk (VRs.unhide hs)
  | _, _, .scr h hs => .scr (h.imp (fun ⟨o, h1, h2⟩ => ⟨o, h1, fun z => h2 (Pl.bare_sub z)⟩) id) (VRs.unhide hs)
  | _, _, .loc h => .loc h
  | _, _, .ob v => .ob v
  | _, _, .fn h => .fn h
theorem VRs.unhide {p : Addr} : ∀ {vs : List V} {ds : List D}, VRs K ρ H vs ds → VRs K (ρ.bare p) H vs ds
  | _, _, .nil => .nil
  | _, _, .cons h hs => .cons (VR.unhide h) (VRs.unhide hs)
end
mutual
/-- a new hidden thing: what was there stands -/
theorem VR.hide {p : Addr} {o : HO} (hp : H p = none) : ∀ {v : V} {d : D}, VR K ρ H v d → VR K (ρ.hide p) (upd H p o) v d
  | _, _, .non => .non
  | _, _, .bl b => .bl b
  | _, _, .int i => .int i
  | _, _, .str x => .str x
  | _, _, .tup h h2 hs => .tup (by rw [upd_ne (ne_of_none h hp)]; exact h) (fun z => by
      rcases z with z | z
      · exact h2 (.inl z)
      · rcases List.mem_cons.mp z with z | z
        · exact ne_of_none h hp z
        · exact h2 (.inr z)) (VRs.hide hp hs)
  | _, _, .ktup h hs => .ktup h (VRs.hide hp hs)
  | _, _, .lst h h2 hs => .lst (by rw [upd_ne (ne_of_none h hp)]; exact h) (fun z => by
      rcases z with z | z
      · exact h2 (.inl z)
      · rcases List.mem_cons.mp z with z | z
        · exact ne_of_none h hp z
        · exact h2 (.inr z)) (VRs.hide hp hs)
  | _, _, .dct h h2 hk hs => .dct (by rw [upd_ne (ne_of_none h hp)]; exact h) (fun z => by
      rcases z with z | z
      · exact h2 (.inl z)
      · rcases List.mem_cons.mp z with z | z
        · exact ne_of_none h hp z
        · exact h2 (.inr z)) hk (VRs.hide hp hs)
  | _, _, .scr h hs => .scr (h.imp (fun ⟨u, h1, h2⟩ => ⟨u, by rw [upd_ne (ne_of_none h1 hp)]; exact h1, fun z => by
      rcases z with z | z
      · exact h2 (.inl z)
      · rcases List.mem_cons.mp z with z | z
        · exact ne_of_none h1 hp z
        · exact h2 (.inr z)⟩) id) (VRs.hide hp hs)
  | _, _, .loc h => .loc h
  | _, _, .ob v => .ob v
  | _, _, .fn h => .fn h
theorem VRs.hide {p : Addr} {o : HO} (hp : H p = none) : ∀ {vs : List V} {ds : List D}, VRs K ρ H vs ds → VRs K (ρ.hide p) (upd H p o) vs ds
  | _, _, .nil => .nil
  | _, _, .cons h hs => .cons (VR.hide hp h) (VRs.hide hp hs)
end
theorem ne_hid {p a : Addr} (hp : p ∈ ρ) (h : a ∉ ρ) : a ≠ p := by rintro rfl; exact h hp
mutual
/-- the hidden thing changes -/
theorem VR.rehide {p : Addr} {o : HO} (hp : p ∈ ρ) : ∀ {v : V} {d : D}, VR K ρ H v d → VR K ρ (upd H p o) v d
  | _, _, .non => .non
  | _, _, .bl b => .bl b
  | _, _, .int i => .int i
  | _, _, .str x => .str x
  | _, _, .tup h h2 hs => .tup (by rw [upd_ne (ne_hid hp h2)]; exact h) h2 (VRs.rehide hp hs)
  | _, _, .ktup h hs => .ktup h (VRs.rehide hp hs)
  | _, _, .lst h h2 hs => .lst (by rw [upd_ne (ne_hid hp h2)]; exact h) h2 (VRs.rehide hp hs)
  | _, _, .dct h h2 hk hs => .dct (by rw [upd_ne (ne_hid hp h2)]; exact h) h2 hk (VRs.rehide hp hs)
  | _, _, .scr h hs => .scr (h.imp (fun ⟨u, h1, h2⟩ => ⟨u, by rw [upd_ne (ne_hid hp h2)]; exact h1, h2⟩) id) (VRs.rehide hp hs)
  | _, _, .loc h => .loc h
  | _, _, .ob v => .ob v
  | _, _, .fn h => .fn h
theorem VRs.rehide {p : Addr} {o : HO} (hp : p ∈ ρ) : ∀ {vs : List V} {ds : List D}, VRs K ρ H vs ds → VRs K ρ (upd H p o) vs ds
  | _, _, .nil => .nil
  | _, _, .cons h hs => .cons (VR.rehide hp h) (VRs.rehide hp hs)
end
theorem CR.map {a : Addr} {c : C} (h : CR K ρ H a c) (m : ∀ v d, VR K ρ H v d → VR K ρ' H' v d) (ms : ∀ v d, VRs K ρ H v d → VRs K ρ' H' v d) (mt : ∀ c o, H c = some o → NT o → c ∉ ρ → H' c = some o ∧ c ∉ ρ') (ha : H' a = H a) : CR K ρ' H' a c := by
  cases c with
  | lst ds => obtain ⟨xs, h, g⟩ := h; exact ⟨xs, ha.trans h, ms _ _ g⟩
  | dK lk kvs =>
    cases lk
    · obtain ⟨ws, h, g⟩ := h; exact ⟨ws, ha.trans h, g.mono m⟩
    · obtain ⟨o, ws, h, g⟩ := h; exact ⟨o, ws, ha.trans h, g.mono m⟩
  | dT lk kvs =>
    cases lk
    · obtain ⟨ws, h, g⟩ := h; exact ⟨ws, ha.trans h, g.mono m⟩
    · obtain ⟨o, ws, h, g⟩ := h; exact ⟨o, ws, ha.trans h, g.mono m⟩
  | ins cc fs => obtain ⟨C, dx, ws, hc, h, g⟩ := h; exact ⟨C, dx, ws, hc, ha.trans h, g.mono m⟩
  | tab P q => obtain ⟨rfl, h⟩ := h; exact ⟨rfl, h.imp ha mt⟩
theorem SR.set (r : SR K ρ S H) {l : Nat} {p : Addr} {o : HO} {c : C} (h : ρ.loc[l]? = some p) (hc : CR K ρ (upd H p o) p c) (n : NT o := by (intro ps z; cases z)) : SR K ρ (S.set l c) (upd H p o) := by
  refine ⟨by simp [r.len], r.nd, fun a ha => ?_, fun i d e => ?_⟩
  · obtain ⟨h1, u, hu, n'⟩ := r.hd a ha
    have hne : a ≠ p := by rintro rfl; exact h1 (List.mem_of_getElem? h)
    exact ⟨h1, u, by rw [upd_ne hne]; exact hu, n'⟩
  · by_cases hi : i = l
    · subst hi
      have hl : i < S.length := by
        have := (List.getElem?_eq_some_iff.mp e).1
        simpa using this
      rw [List.getElem?_set_self hl] at e
      cases e
      exact ⟨p, h, hc⟩
    · rw [List.getElem?_set_ne (Ne.symm hi)] at e
      obtain ⟨a, h1, h2⟩ := r.cell i d e
      have : a ≠ p := by
        rintro rfl
        obtain ⟨x1, y1⟩ := List.getElem?_eq_some_iff.mp h1
        obtain ⟨x2, y2⟩ := List.getElem?_eq_some_iff.mp h
        exact hi ((List.getElem_inj r.nd).mp (y1.trans y2.symm))
      have hp : p ∈ ρ := .inl (List.mem_of_getElem? h)
      exact ⟨a, h1, h2.map (fun _ _ => VR.rehide hp) (fun _ _ => VRs.rehide hp) (fun c o e _ z => ⟨by rw [upd_ne (ne_hid hp z)]; exact e, z⟩) (upd_ne this)⟩
theorem SR.hide (r : SR K ρ S H) {p : Addr} {o : HO} (hp : H p = none) (n : NH o := by exact ⟨(by intro ps z; cases z), (by intro c q z; unfold LamX.CodeO at z; cases z)⟩) : SR K (ρ.hide p) S (upd H p o) := by
  refine ⟨r.len, r.nd, fun a ha => ?_, fun l c e => ?_⟩
  · rcases List.mem_cons.mp (show a ∈ p :: ρ.hid from ha) with z | z
    · subst z; exact ⟨fun q => r.fresh hp (.inl q), o, upd_same, n⟩
    · obtain ⟨h1, u, hu, n'⟩ := r.hd a z
      exact ⟨h1, u, by rw [upd_ne (ne_of_none hu hp)]; exact hu, n'⟩
  · obtain ⟨a, h1, h2⟩ := r.cell l c e
    obtain ⟨u, hu⟩ := h2.isSome
    refine ⟨a, h1, h2.map (fun _ _ => VR.hide hp) (fun _ _ => VRs.hide hp) (fun c o e _ z => ⟨by rw [upd_ne (ne_of_none e hp)]; exact e, fun y => ?_⟩) (upd_ne (ne_of_none hu hp))⟩
    rcases y with y | y
    · exact z (.inl y)
    · rcases List.mem_cons.mp y with y | y
      · exact ne_of_none e hp y
      · exact z (.inr y)
theorem SR.rehide (r : SR K ρ S H) {p : Addr} {o : HO} (hp : p ∈ ρ.hid) (n : NH o := by exact ⟨(by intro ps z; cases z), (by intro c q z; unfold LamX.CodeO at z; cases z)⟩) : SR K ρ S (upd H p o) := by
  refine ⟨r.len, r.nd, fun a ha => ?_, fun l c e => ?_⟩
  · obtain ⟨h1, u, hu, n'⟩ := r.hd a ha
    by_cases z : a = p
    · subst z; exact ⟨h1, o, upd_same, n⟩
    · exact ⟨h1, u, by rw [upd_ne z]; exact hu, n'⟩
  · obtain ⟨a, h1, h2⟩ := r.cell l c e
    have : a ≠ p := by rintro rfl; exact (r.hd _ hp).1 (List.mem_of_getElem? h1)
    exact ⟨a, h1, h2.map (fun _ _ => VR.rehide (.inr hp)) (fun _ _ => VRs.rehide (.inr hp)) (fun c o e _ z => ⟨by rw [upd_ne (ne_hid (.inr hp) z)]; exact e, z⟩) (upd_ne this)⟩
theorem SR.unhide {p : Addr} (r : SR K ρ S H) : SR K (ρ.bare p) S H := by
  refine ⟨r.len, r.nd, fun a ha => r.hd a (List.mem_filter.mp ha).1, fun l c e => ?_⟩
  obtain ⟨a, h1, h2⟩ := r.cell l c e
  exact ⟨a, h1, h2.map (fun _ _ => VR.unhide) (fun _ _ => VRs.unhide) (fun c o e _ z => ⟨e, fun y => z (Pl.bare_sub y)⟩) rfl⟩

theorem Ext.hide {p : Addr} {o : HO} (h : H p = none) : Ext ρ H (ρ.hide p) (upd H p o) := ⟨⟨[], by simp [Pl.hide]⟩, fun _ q => List.mem_cons_of_mem _ q, fun _ q => .inl q, fun a q => by
  rcases List.mem_cons.mp (show a ∈ p :: ρ.hid from q) with z | z
  · subst z; exact .inr (.none h)
  · exact .inl z, fun b u e _ _ => by rw [upd_ne (ne_of_none e h)]; exact e, upd_live0 h, fun b o u e => by rw [upd_ne (ne_of_none e h)]; exact e⟩
/-- what began without p goes on without it -/
theorem Ext.bare {p : Addr} (e : Ext ρ H ρ' H') (h : p ∉ ρ.hid) : Ext ρ H (ρ'.bare p) H' := ⟨e.pre, fun a q => List.mem_filter.mpr ⟨e.hid a q, decide_eq_true (by rintro rfl; exact h q)⟩, e.newL, fun a q => e.newH a (List.mem_filter.mp q).1, e.keep, e.live, e.frz⟩
/-- the hidden thing changes: a step of what began when it was not there -/
theorem Ext.rehide {p : Addr} {o : HO} (e : Ext ρ H ρ' H') (h : H p = none) : Ext ρ H ρ' (upd H' p o) := ⟨e.pre, e.hid, e.newL, e.newH, fun b u q n hb => by rw [upd_ne (ne_of_none q h)]; exact e.keep b u q n hb, fun b q u z => by
  have hb : b ≠ p := ne_of_none z h
  exact e.live b (fun u2 z2 => q u2 (by rw [upd_ne hb]; exact z2)) u z, fun b q u z => by rw [upd_ne (ne_of_none z h)]; exact e.frz b q u z⟩

/-! ### what an answer asks -/
/-- an exception's own dict -/
def XD (K : PySem.W.Frag) (ρ : Pl) (H : Hp) (dd : Option Addr) (fs : List (Str × D)) : Prop :=
  (fs = [] ∧ dd = none) ∨ (fs ≠ [] ∧ ∃ da ws, dd = some da ∧ H da = some (.xd ws) ∧ da ∉ ρ ∧ KR (VR K ρ H) ws fs)
def Post (K : PySem.W.Frag) (W : XK) (ρ : Pl) (H : Hp) {A B : Type} (o : R A) (rel : Pl → Hp → B → A → Prop) (Q : B → Hp → Prop) : Prop := match o with
  | .ok d S' => ∀ ρ' H' v, Ext ρ H ρ' H' → SR K ρ' S' H' → rel ρ' H' v d → Q v H'
  | .ex c fs S' => ∀ ρ' H' dd, Ext ρ H ρ' H' → SR K ρ' S' H' → XD K ρ' H' dd fs → W (clsAt K c) dd H'
  | .bad => False
theorem Post.ext {W : XK} {A B : Type} {o : R A} {rel : Pl → Hp → B → A → Prop} {Q : B → Hp → Prop} (e : Ext ρ H ρ' H') (h : Post K W ρ H o rel Q) : Post K W ρ' H' o rel Q := by
  cases o with
  | ok d S' => exact fun r2 H2 v e2 s2 v2 => h r2 H2 v (e.trans e2) s2 v2
  | ex c fs S' => exact fun r2 H2 v e2 s2 v2 => h r2 H2 v (e.trans e2) s2 v2
  | bad => exact h
theorem Post.bind {W : XK} {A B A' B' : Type} {o : R A} {f : A → Sto → R A'} {rel : Pl → Hp → B → A → Prop} {rel' : Pl → Hp → B' → A' → Prop} {Q : B' → Hp → Prop} {Q1 : B → Hp → Prop}
    (h : Post K W ρ H (o.bind f) rel' Q) (k : ∀ ρ1 H1 S1 v d, Ext ρ H ρ1 H1 → SR K ρ1 S1 H1 → rel ρ1 H1 v d → Post K W ρ1 H1 (f d S1) rel' Q → Q1 v H1) : Post K W ρ H o rel Q1 := by
  cases o with
  | ok d S' => exact fun r2 H2 v e2 s2 v2 => k r2 H2 S' v d e2 s2 v2 (Post.ext e2 h)
  | ex c fs S' => exact h
  | bad => exact h
/-- an answer in hand: the heap as it stands -/
theorem Post.here {W : XK} {A B : Type} {d : A} {rel : Pl → Hp → B → A → Prop} {Q : B → Hp → Prop} {v : B} (h : Post K W ρ H (.ok d S) rel Q) (s : SR K ρ S H) (r : rel ρ H v d) : Q v H := h ρ H v Ext.refl s r
end

/-! ### readings -/
abbrev ME := Tau → Sto → R D
abbrev MT := Tau → Sto → R Bool
abbrev MA := Tau → Sto → R (List D)
abbrev relB : Pl → Hp → Bool → Bool → Prop := fun _ _ b b' => b = b'
def Em (K : PySem.W.Frag) (W : WX) (m : ME) : TE := fun σ H Q => ∃ ρ τ S, SR K ρ S H ∧ ER K ρ H τ σ ∧ Post K (fun c d H' => W c d σ H') ρ H (m τ S) (VR K) Q
def Tm (K : PySem.W.Frag) (W : WX) (m : MT) : TT := fun σ H Q => ∃ ρ τ S, SR K ρ S H ∧ ER K ρ H τ σ ∧ Post K (fun c d H' => W c d σ H') ρ H (m τ S) relB Q
def Am (K : PySem.W.Frag) (W : WX) (m : MA) : TA := fun σ H Q => ∃ ρ τ S, SR K ρ S H ∧ ER K ρ H τ σ ∧ Post K (fun c d H' => W c d σ H') ρ H (m τ S) (VRs K) Q
theorem PE_imp {X : Cx} {e : Expr} {t t' : TE} (h : PE X e t) (k : ∀ σ H Q, t' σ H Q → t σ H Q) : PE X e t' := ⟨fun pins s σ H Q I w => h.run pins s σ H Q I (k σ H Q w)⟩
theorem PT_imp {X : Cx} {e : Expr} {t t' : TT} (h : PT X e t) (k : ∀ σ H Q, t' σ H Q → t σ H Q) : PT X e t' := ⟨fun pins s σ H Q I w => h.run pins s σ H Q I (k σ H Q w)⟩
theorem PW_imp {X : Cx} {e : Expr} {t t' : TT} (h : PW X e t) (k : ∀ σ H Q, t' σ H Q → t σ H Q) : PW X e t' := ⟨fun wh pins s σ H Q I w => h.run wh pins s σ H Q I (k σ H Q w)⟩
theorem PA_imp {X : Cx} {es : List Expr} {t t' : TA} (h : PA X es t) (k : ∀ σ H Q, t' σ H Q → t σ H Q) : PA X es t' := ⟨fun p pins s σ H Q I w => h.run p pins s σ H Q I (k σ H Q w)⟩
theorem PS_imp {X : Cx} {e : Stmt} {t t' : TS} (h : PS X e t) (k : ∀ D σ H, t' D σ H → t D σ H) : PS X e t' := ⟨fun pins s σ H D I w => h.run pins s σ H D I (k D σ H w)⟩
theorem PSs_imp {X : Cx} {e : List Stmt} {t t' : TS} (h : PSs X e t) (k : ∀ D σ H, t' D σ H → t D σ H) : PSs X e t' := ⟨fun pins s σ H D I w => h.run pins s σ H D I (k D σ H w)⟩

section
variable {X : Cx} {W : WX} {σ : St} {H : Hp}
/-- the workhorse: a part is read, then the rest -/
theorem Em_bind {K : PySem.W.Frag} {A' B' : Type} {m : ME} {f : D → Sto → R A'} {rel' : Pl → Hp → B' → A' → Prop} {Q : B' → Hp → Prop} {Q1 : VK} {ρ : Pl} {τ : Tau} {S : Sto} (s : SR K ρ S H) (r : ER K ρ H τ σ)
    (h : Post K (fun c d H' => W c d σ H') ρ H ((m τ S).bind f) rel' Q)
    (k : ∀ ρ1 H1 S1 v d, SR K ρ1 S1 H1 → ER K ρ1 H1 τ σ → Ext ρ H ρ1 H1 → VR K ρ1 H1 v d → Post K (fun c d H' => W c d σ H') ρ1 H1 (f d S1) rel' Q → Q1 v H1) : Em K W m σ H Q1 :=
  ⟨ρ, τ, S, s, r, Post.bind h fun ρ1 H1 S1 v d e s1 v1 p => k ρ1 H1 S1 v d s1 (r.mono e) e v1 p⟩
theorem Tm_bind {K : PySem.W.Frag} {A' B' : Type} {m : MT} {f : Bool → Sto → R A'} {rel' : Pl → Hp → B' → A' → Prop} {Q : B' → Hp → Prop} {Q1 : Bool → Hp → Prop} {ρ : Pl} {τ : Tau} {S : Sto} (s : SR K ρ S H) (r : ER K ρ H τ σ)
    (h : Post K (fun c d H' => W c d σ H') ρ H ((m τ S).bind f) rel' Q)
    (k : ∀ ρ1 H1 S1 b, SR K ρ1 S1 H1 → ER K ρ1 H1 τ σ → Ext ρ H ρ1 H1 → Post K (fun c d H' => W c d σ H') ρ1 H1 (f b S1) rel' Q → Q1 b H1) : Tm K W m σ H Q1 :=
  ⟨ρ, τ, S, s, r, Post.bind h fun ρ1 H1 S1 v d e s1 v1 p => by
    have v1' : v = d := v1
    subst v1'; exact k ρ1 H1 S1 v s1 (r.mono e) e p⟩
theorem Am_bind {K : PySem.W.Frag} {A' B' : Type} {m : MA} {f : List D → Sto → R A'} {rel' : Pl → Hp → B' → A' → Prop} {Q : B' → Hp → Prop} {Q1 : List V → Hp → Prop} {ρ : Pl} {τ : Tau} {S : Sto} (s : SR K ρ S H) (r : ER K ρ H τ σ)
    (h : Post K (fun c d H' => W c d σ H') ρ H ((m τ S).bind f) rel' Q)
    (k : ∀ ρ1 H1 S1 v d, SR K ρ1 S1 H1 → ER K ρ1 H1 τ σ → Ext ρ H ρ1 H1 → VRs K ρ1 H1 v d → Post K (fun c d H' => W c d σ H') ρ1 H1 (f d S1) rel' Q → Q1 v H1) : Am K W m σ H Q1 :=
  ⟨ρ, τ, S, s, r, Post.bind h fun ρ1 H1 S1 v d e s1 v1 p => k ρ1 H1 S1 v d s1 (r.mono e) e v1 p⟩
end
end Z

/-! Z2: rules of expressions: names, constants, operators, tests, displays, calls. -/
namespace Z
open PySem L2

/-! ### what a thing is to be read as -/
/-- the items of a list that is tracked as it stands (to be concatenated) -/
def listD : D → Sto → Option (List D)
  | .lst ds, _ => some ds
  | .loc l, S => match S[l]? with | some (.lst ds) => some ds | _ => none
  | _, _ => none
/-- of a list that is read -/
def listR : D → Sto → Option (List D)
  | .scr ds, _ => some ds
  | .lst ds, _ => some ds
  | .loc l, S => match S[l]? with | some (.lst ds) => some ds | _ => none
  | _, _ => none
section
variable {K : PySem.W.Frag} {ρ : Pl} {H : Hp} {S : Sto} {v : V} {d : D} {ds : List D}
theorem listD_of (s : SR K ρ S H) (r : VR K ρ H v d) (h : listD d S = some ds) : ∃ a xs, v = .ref a ∧ H a = some (.lst xs) ∧ VRs K ρ H xs ds := by
  cases r with
  | lst h1 h2 hs => simp only [listD, Option.some.injEq] at h; subst h; exact ⟨_, _, rfl, h1, hs⟩
  | @loc a l hl =>
    simp only [listD] at h
    split at h
    · rename_i es e
      simp only [Option.some.injEq] at h
      subst h
      obtain ⟨xs, h1, h2⟩ := s.at hl e
      exact ⟨_, _, rfl, h1, h2⟩
    · cases h
  | _ => simp [listD] at h
theorem listR_of (s : SR K ρ S H) (r : VR K ρ H v d) (h : listR d S = some ds) : ∃ a xs, v = .ref a ∧ SqL K H a xs ∧ VRs K ρ H xs ds := by
  cases r with
  | lst h1 h2 hs => simp only [listR, Option.some.injEq] at h; subst h; exact ⟨_, _, rfl, SqL.of h1, hs⟩
  | scr h1 hs =>
    simp only [listR, Option.some.injEq] at h; subst h
    refine ⟨_, _, rfl, ?_, hs⟩
    rcases h1 with ⟨o, h1, _⟩ | h1
    · exact .inl (.inr ⟨o, h1⟩)
    · exact h1 H
  | @loc a l hl =>
    simp only [listR] at h
    split at h
    · rename_i es e
      simp only [Option.some.injEq] at h
      subst h
      obtain ⟨xs, h1, h2⟩ := s.at hl e
      exact ⟨_, _, rfl, SqL.of h1, h2⟩
    · cases h
  | _ => simp [listR] at h
theorem tup_of (r : VR K ρ H v (.tup ds)) : ∃ a xs, v = .ref a ∧ SqT K H a xs ∧ VRs K ρ H xs ds := by
  cases r with
  | tup h _ hs => exact ⟨_, _, rfl, SqT.of h, hs⟩
theorem ktup_of (r : VR K ρ H v (.ktup ds)) : ∃ a xs, v = .ref a ∧ SqT K H a xs ∧ VRs K ρ H xs ds := by
  cases r with
  | ktup h hs => exact ⟨_, _, rfl, h H, hs⟩
/-- a tuple that was made while the program ran -/
theorem tup_at (r : VR K ρ H v (.tup ds)) : ∃ a xs, v = .ref a ∧ H a = some (.tup xs) ∧ VRs K ρ H xs ds := by
  cases r with
  | tup h _ hs => exact ⟨_, _, rfl, h, hs⟩
theorem VR.newTup (s : SR K ρ S H) {p : Addr} {xs : List V} (hp : H p = none) (h : VRs K ρ H xs ds) : VR K ρ (upd H p (.tup xs)) (.ref p) (.tup ds) :=
  .tup upd_same (s.fresh hp) (h.mono (Ext.fresh hp))
theorem VR.newLst (s : SR K ρ S H) {p : Addr} {xs : List V} (hp : H p = none) (h : VRs K ρ H xs ds) : VR K ρ (upd H p (.lst xs)) (.ref p) (.lst ds) :=
  .lst upd_same (s.fresh hp) (h.mono (Ext.fresh hp))
/-- a new tuple, a new list as answers -/
theorem Post.newTup {W : XK} {Q : VK} (h : Post K W ρ H (.ok (.tup ds) S) (VR K) Q) (s : SR K ρ S H) {xs : List V} (r : VRs K ρ H xs ds) : ∀ p, H p = none → Q (.ref p) (upd H p (.tup xs)) := fun p hp =>
  h ρ _ _ (Ext.fresh hp) (s.laid hp) (VR.newTup s hp r)
theorem Post.newLst {W : XK} {Q : VK} (h : Post K W ρ H (.ok (.lst ds) S) (VR K) Q) (s : SR K ρ S H) {xs : List V} (r : VRs K ρ H xs ds) : ∀ p, H p = none → Q (.ref p) (upd H p (.lst xs)) := fun p hp =>
  h ρ _ _ (Ext.fresh hp) (s.laid hp) (VR.newLst s hp r)
end

def guardR {A : Type} (c : Prop) [Decidable c] (o : R A) : R A := if c then o else .bad
theorem guardR_post {K W ρ H} {A B : Type} {c : Prop} [Decidable c] {o : R A} {rel : Pl → Hp → B → A → Prop} {Q} (h : Post K W ρ H (guardR c o) rel Q) : c ∧ Post K W ρ H o rel Q := by
  unfold guardR at h
  split at h
  · exact ⟨by assumption, h⟩
  · exact h.elim
@[simp] theorem guardR_pos {A : Type} {c : Prop} [Decidable c] {o : R A} (h : c) : guardR c o = o := if_pos h

/-! ### names and constants -/
def mVar (i : Nat) : ME := fun τ S => match τ[i]? with | some (some d) => .ok d S | _ => .bad
def mC (d : D) : ME := fun _ S => .ok d S
section
variable {X : Cx} {W : WX} {e a b c : Expr} {ma mb mc : ME} {pos : Pos}
theorem z_var (i : Nat) {x : Str} (h : PE X (.Name x pos) (tVar i)) : PE X (.Name x pos) (Em X.K W (mVar i)) := PE_imp h fun σ H Q ⟨ρ, τ, S, s, r, p⟩ => by
  unfold mVar at p
  split at p
  · rename_i d e
    obtain ⟨v, h1, h2⟩ := r.2 i d e
    exact ⟨v, h1, p.here s h2⟩
  · exact p.elim
theorem z_c {v : V} {d : D} (h : PE X e (tC v)) (hv : ∀ ρ H, VR X.K ρ H v d) : PE X e (Em X.K W (mC d)) := PE_imp h fun σ H Q ⟨ρ, τ, S, s, r, p⟩ => p.here s (hv ρ H)
theorem z_int {i j} : PE X (.Constant (.int i) j pos) (Em X.K W (mC (.int i))) := z_c pe_int fun _ _ => .int i
theorem z_bl {i j} : PE X (.Constant (.bool i) j pos) (Em X.K W (mC (.bl i))) := z_c pe_bl fun _ _ => .bl i
theorem z_non {j} : PE X (.Constant .none j pos) (Em X.K W (mC .non)) := z_c pe_non fun _ _ => .non
theorem z_str {i j} : PE X (.Constant (.str i) j pos) (Em X.K W (mC (.str i))) := z_c pe_str fun _ _ => .str i
/-- a module's constant -/
theorem z_glob {x : Str} {v : V} {u : Value} {d : D} (hm : X.mg x = some u) (r : RelV v u) (hv : ∀ ρ H, VR X.K ρ H v d) (hg : Gl X x := by rfl) (hd : (x == ("__debug__" : Str)) = false := by decide) : PE X (.Name x pos) (Em X.K W (mC d)) :=
  z_c (pe_glob hg hm r hd) hv

/-! ### two things and an operator -/
def OpS (K : PySem.W.Frag) (f : D → D → Sto → R D) (r : R2) : Prop := ∀ (W : XK) (ρ : Pl) (S : Sto) (H : Hp) (x y : V) (dx dy : D) (Q : VK), SR K ρ S H → VR K ρ H x dx → VR K ρ H y dy → Post K W ρ H (f dx dy S) (VR K) Q → r x y H Q
def mBin (f : D → D → Sto → R D) (a b : ME) : ME := fun τ S => (a τ S).bind fun x S1 => (b τ S1).bind fun y S2 => f x y S2
theorem Em_op {K : PySem.W.Frag} {f : D → D → Sto → R D} {r : R2} (hs : OpS K f r) {σ : St} {H : Hp} {Q : VK} (h : Em K W (mBin f ma mb) σ H Q) : tOp r (Em K W ma) (Em K W mb) σ H Q := by
  obtain ⟨ρ, τ, S, s, e, p⟩ := h
  exact Em_bind s e p fun ρ1 H1 S1 v d s1 e1 x1 v1 p1 => Em_bind s1 e1 p1 fun ρ2 H2 S2 w d2 s2 e2 x2 v2 p2 => hs _ ρ2 S2 H2 v w d d2 Q s2 (v1.mono x2) v2 p2
theorem z_bin {op : Operator} {f : D → D → Sto → R D} {r : R2} (ho : OpR X (binaryOp op) r) (hs : OpS X.K f r) (ha : PE X a (Em X.K W ma)) (hb : PE X b (Em X.K W mb)) : PE X (.BinOp a op b pos) (Em X.K W (mBin f ma mb)) :=
  PE_imp (pe_op ho ha hb) fun σ H Q h => Em_op hs h
theorem z_cmp {op : CmpOp} {f : D → D → Sto → R D} {r : R2} (ho : OpR X (compareOp op) r) (hs : OpS X.K f r) (ha : PE X a (Em X.K W ma)) (hb : PE X b (Em X.K W mb)) (hm : behindInMarks op b = false := by first | exact nomark _ | rfl) : PE X (.Compare a [op] [b] pos) (Em X.K W (mBin f ma mb)) :=
  PE_imp (pe_cmpR ho ha hb hm) fun σ H Q h => Em_op hs h
/-- a thing that is a truth, as a test -/
def asB : D → Sto → R Bool
  | .bl b, S => .ok b S
  | _, _ => .bad
def mB (m : ME) : MT := fun τ S => (m τ S).bind asB
theorem asB_post {K : PySem.W.Frag} {Wk : XK} {ρ : Pl} {H : Hp} {S : Sto} {v : V} {d : D} {Q : Bool → Hp → Prop} (s : SR K ρ S H) (r : VR K ρ H v d) (h : Post K Wk ρ H (asB d S) relB Q) : ∃ k, v = .bl k ∧ Q k H := by
  unfold asB at h
  split at h
  · cases r
    exact ⟨_, rfl, h.here s rfl⟩
  · exact h.elim
theorem t_cmp {op : CmpOp} {f : D → D → Sto → R D} {r : R2} (ho : OpR X (compareOp op) r) (hs : OpS X.K f r) (ha : PE X a (Em X.K W ma)) (hb : PE X b (Em X.K W mb)) (hm : behindInMarks op b = false := by first | exact nomark _ | rfl) : PT X (.Compare a [op] [b] pos) (Tm X.K W (mB (mBin f ma mb))) :=
  PT_imp (pt_cmpR ho ha hb hm) fun σ H Q h => by
    obtain ⟨ρ, τ, S, s, e, p⟩ := h
    have p' : Post X.K (fun c d H' => W c d σ H') ρ H ((ma τ S).bind fun x S1 => ((mb τ S1).bind fun y S2 => f x y S2).bind asB) relB Q := by
      have : ((mBin f ma mb τ S).bind asB) = ((ma τ S).bind fun x S1 => ((mb τ S1).bind fun y S2 => f x y S2).bind asB) := by
        unfold mBin
        cases ma τ S <;> rfl
      rw [← this]; exact p
    refine Em_bind s e p' fun ρ1 H1 S1 v d s1 e1 x1 v1 p1 => ?_
    have p1' : Post X.K (fun c d H' => W c d σ H') ρ1 H1 ((mb τ S1).bind fun y S2 => (f d y S2).bind asB) relB Q := by
      have : (((mb τ S1).bind fun y S2 => f d y S2).bind asB) = ((mb τ S1).bind fun y S2 => (f d y S2).bind asB) := by
        cases mb τ S1 <;> rfl
      rw [← this]; exact p1
    refine Em_bind s1 e1 p1' fun ρ2 H2 S2 w d2 s2 e2 x2 v2 p2 => ?_
    refine hs _ ρ2 S2 H2 v w d d2 _ s2 (v1.mono x2) v2 (Post.bind p2 fun ρ3 H3 S3 z dz x3 s3 v3 p3 => asB_post s3 v3 p3)
/-- a < b < c -/
def mChain (f g : D → D → Sto → R D) (a b c : ME) : ME := fun τ S => (a τ S).bind fun x S1 => (b τ S1).bind fun y S2 => (f x y S2).bind fun k S3 => (asB k S3).bind fun k S3 =>
  if k = true then (c τ S3).bind fun z S4 => g y z S4 else .ok (.bl false) S3
theorem z_chain {op op' : CmpOp} {f g : D → D → Sto → R D} {r r' : R2} (ho : OpR X (compareOp op) r) (hs : OpS X.K f r) (ho' : OpR X (compareOp op') r') (hs' : OpS X.K g r') (ha : PE X a (Em X.K W ma)) (hb : PE X b (Em X.K W mb)) (hc : PE X c (Em X.K W mc)) 
    (h : PE X (.Compare a [op, op'] [b, c] pos) (tChain r r' (Em X.K W ma) (Em X.K W mb) (Em X.K W mc))) : PE X (.Compare a [op, op'] [b, c] pos) (Em X.K W (mChain f g ma mb mc)) :=
  PE_imp h fun σ H Q h => by
    obtain ⟨ρ, τ, S, s, e, p⟩ := h
    refine Em_bind s e p fun ρ1 H1 S1 v d s1 e1 x1 v1 p1 => ?_
    refine Em_bind s1 e1 p1 fun ρ2 H2 S2 w d2 s2 e2 x2 v2 p2 => ?_
    refine hs _ ρ2 S2 H2 v w d d2 _ s2 (v1.mono x2) v2 (Post.bind p2 fun ρ3 H3 S3 z dz x3 s3 v3 p3 => ?_)
    cases v3 with
    | bl k =>
      refine ⟨k, rfl, ?_⟩
      cases k with
      | true =>
        simp only [asB, R.bind_ok, if_true] at p3 ⊢
        exact Em_bind s3 (e2.mono x3) p3 fun ρ4 H4 S4 u d4 s4 e4 x4 v4 p4 => hs' _ ρ4 S4 H4 w u d2 d4 Q s4 ((v2.mono x3).mono x4) v4 p4
      | false =>
        simp only [asB, R.bind_ok] at p3 ⊢
        rw [if_neg (by decide)] at p3 ⊢
        exact p3.here s3 (.bl false)
    | _ => exact (show False from p3).elim

/-! ### truth -/
def ofO {A : Type} (o : Option A) (S : Sto) : R A := match o with | some a => .ok a S | none => .bad
@[simp] theorem ofO_some {A : Type} (a : A) (S : Sto) : ofO (some a) S = .ok a S := rfl
@[simp] theorem ofO_none {A : Type} (S : Sto) : ofO (none : Option A) S = .bad := rfl
def truP : D → Sto → Option Bool
  | .non, _ => some false
  | .bl b, _ => some b
  | .int i, _ => some (i != 0)
  | .str x, _ => if x.length ≤ sizeLine then some ((x.length : Int) != 0) else none
  | .tup ds, _ => some (!ds.isEmpty)
  | .ktup _, _ => none
  | .lst ds, _ => some (!ds.isEmpty)
  | .scr ds, _ => some (!ds.isEmpty)
  | .dct ks _, _ => some (!ks.isEmpty)
  | .loc l, S => match S[l]? with
    | some (.lst ds) => some (!ds.isEmpty)
    | some (.dK false kvs) => some (!kvs.isEmpty)
    | _ => none
  | .ob _, _ => none
  | .fn _, _ => none
def tru (d : D) (S : Sto) : R Bool := ofO (truP d S) S
theorem isEmpty_len {α β : Type} {l : List α} {m : List β} (h : l.length = m.length) : l.isEmpty = m.isEmpty := by
  cases l <;> cases m <;> first | rfl | simp at h
theorem truP_of {K : PySem.W.Frag} {ρ : Pl} {H : Hp} {S : Sto} {v : V} {d : D} {k : Bool} (s : SR K ρ S H) (r : VR K ρ H v d) (h : truP d S = some k) : TruV K v H k := by
  cases r with
  | non => exact (Option.some.inj h).symm
  | bl b => exact (Option.some.inj h).symm
  | int b => exact (Option.some.inj h).symm
  | str x =>
    simp only [truP] at h
    split at h
    · exact ⟨by assumption, (Option.some.inj h).symm⟩
    · cases h
  | tup ht ht2 hs =>
    obtain ⟨a, xs, e, h1, h2⟩ := tup_of (VR.tup ht ht2 hs)
    rw [e]
    exact .inr (.inl ⟨xs, h1, by rw [isEmpty_len h2.length]; exact (Option.some.inj h).symm⟩)
  | ktup _ _ => cases h
  | lst h1 h2 hs => exact .inl ⟨_, SqL.of h1, by rw [isEmpty_len hs.length]; exact (Option.some.inj h).symm⟩
  | scr h1 hs =>
    obtain ⟨a, xs, e, h1, h2⟩ := listR_of s (VR.scr h1 hs) rfl
    rw [e]
    exact .inl ⟨_, h1, by rw [isEmpty_len h2.length]; exact (Option.some.inj h).symm⟩
  | dct h1 h2 hk hs => exact .inr (.inr ⟨_, h1, by rw [← hk] at h; rw [← isEmpty_len (List.length_map (·.1))]; exact (Option.some.inj h).symm⟩)
  | @loc a l hl =>
    simp only [truP] at h
    split at h
    · rename_i ds e
      obtain ⟨xs, h1, h2⟩ := s.at hl e
      exact .inl ⟨xs, SqL.of h1, by rw [isEmpty_len h2.length]; exact (Option.some.inj h).symm⟩
    · rename_i kvs e
      obtain ⟨ws, h1, h2⟩ := s.at hl e
      exact .inr (.inr ⟨ws, h1, by rw [isEmpty_len h2.length]; exact (Option.some.inj h).symm⟩)
    · cases h
  | ob v => cases h
  | fn _ => cases h
theorem ofO_bind {K : PySem.W.Frag} {Wk : XK} {ρ : Pl} {H : Hp} {S : Sto} {A B C : Type} {o : Option A} {f : A → Sto → R B} {rel : Pl → Hp → C → B → Prop} {Q : C → Hp → Prop} (h : Post K Wk ρ H ((ofO o S).bind f) rel Q) : ∃ a, o = some a ∧ Post K Wk ρ H (f a S) rel Q := by
  cases o with
  | some a => exact ⟨a, rfl, h⟩
  | none => exact h.elim
theorem ofO_post {K : PySem.W.Frag} {Wk : XK} {ρ : Pl} {H : Hp} {S : Sto} {A C : Type} {o : Option A} {rel : Pl → Hp → C → A → Prop} {Q : C → Hp → Prop} (h : Post K Wk ρ H (ofO o S) rel Q) : ∃ a, o = some a ∧ Post K Wk ρ H (.ok a S) rel Q := by
  cases o with
  | some a => exact ⟨a, rfl, h⟩
  | none => exact h.elim
theorem tru_post {K : PySem.W.Frag} {Wk : XK} {ρ : Pl} {H : Hp} {S : Sto} {v : V} {d : D} {Q : Bool → Hp → Prop} (s : SR K ρ S H) (r : VR K ρ H v d) (h : Post K Wk ρ H (tru d S) relB Q) : ∃ k, TruV K v H k ∧ Q k H := by
  obtain ⟨k, e, p⟩ := ofO_post h
  exact ⟨k, truP_of s r e, p.here s rfl⟩
def mT (m : ME) : MT := fun τ S => (m τ S).bind tru
theorem t_tru (ha : PE X a (Em X.K W ma)) (he : ∀ whole, isTrue a X.env whole = (do let v ← whole; standAt a.pos; holding [v] (truthy v)) := by intro _; rfl) : PT X a (Tm X.K W (mT ma)) := PT_imp (pt_truth ha he) fun σ H Q h => by
  obtain ⟨ρ, τ, S, s, e, p⟩ := h
  exact Em_bind s e p fun ρ1 H1 S1 v d s1 e1 x1 v1 p1 => tru_post s1 v1 p1
def mAnd (a b : MT) : MT := fun τ S => (a τ S).bind fun k S1 => if k = true then b τ S1 else .ok false S1
def mOr (a b : MT) : MT := fun τ S => (a τ S).bind fun k S1 => if k = true then .ok true S1 else b τ S1
def mNot (a : MT) : MT := fun τ S => (a τ S).bind fun k S1 => .ok (!k) S1
variable {ta tb : MT} {rest : List Expr}
theorem w_and1 (ha : PT X a (Tm X.K W ta)) : PW X (.BoolOp .And [a] pos) (Tm X.K W ta) := pw_and1 ha
theorem w_or1 (ha : PT X a (Tm X.K W ta)) : PW X (.BoolOp .Or [a] pos) (Tm X.K W ta) := pw_or1 ha
theorem w_and (ha : PT X a (Tm X.K W ta)) (hb : PW X (.BoolOp .And (b :: rest) pos) (Tm X.K W tb)) : PW X (.BoolOp .And (a :: b :: rest) pos) (Tm X.K W (mAnd ta tb)) := PW_imp (pw_and ha hb) fun σ H Q h => by
  obtain ⟨ρ, τ, S, s, e, p⟩ := h
  refine Tm_bind s e p fun ρ1 H1 S1 k s1 e1 x1 p1 => ?_
  cases k with
  | true => exact iteT ⟨ρ1, τ, S1, s1, e1, p1⟩
  | false => exact iteF (p1.here s1 rfl)
theorem w_or (ha : PT X a (Tm X.K W ta)) (hb : PW X (.BoolOp .Or (b :: rest) pos) (Tm X.K W tb)) : PW X (.BoolOp .Or (a :: b :: rest) pos) (Tm X.K W (mOr ta tb)) := PW_imp (pw_or ha hb) fun σ H Q h => by
  obtain ⟨ρ, τ, S, s, e, p⟩ := h
  refine Tm_bind s e p fun ρ1 H1 S1 k s1 e1 x1 p1 => ?_
  cases k with
  | true => exact iteT (p1.here s1 rfl)
  | false => exact iteF ⟨ρ1, τ, S1, s1, e1, p1⟩
theorem t_not (ha : PT X a (Tm X.K W ta)) : PT X (.UnaryOp .Not a pos) (Tm X.K W (mNot ta)) := PT_imp (pt_not ha) fun σ H Q h => by
  obtain ⟨ρ, τ, S, s, e, p⟩ := h
  exact Tm_bind s e p fun ρ1 H1 S1 k s1 e1 x1 p1 => p1.here s1 rfl
/-- and, or, not as things -/
def mAndV (a b : ME) : ME := fun τ S => (a τ S).bind fun x S1 => (tru x S1).bind fun k S2 => if k = true then b τ S2 else .ok x S2
def mOrV (a b : ME) : ME := fun τ S => (a τ S).bind fun x S1 => (tru x S1).bind fun k S2 => if k = true then .ok x S2 else b τ S2
def mNotV (a : ME) : ME := fun τ S => (a τ S).bind fun x S1 => (tru x S1).bind fun k S2 => .ok (.bl (!k)) S2
theorem v_and1 (ha : PE X a (Em X.K W ma)) {op} : PE X (.BoolOp op [a] pos) (Em X.K W ma) := pe_one ha
variable {mr : ME}
theorem v_and (ha : PE X a (Em X.K W ma)) (hb : PE X (.BoolOp .And (b :: rest) pos) (Em X.K W mr)) : PE X (.BoolOp .And (a :: b :: rest) pos) (Em X.K W (mAndV ma mr)) := PE_imp (pe_andT ha hb) fun σ H Q h => by
  obtain ⟨ρ, τ, S, s, e, p⟩ := h
  refine Em_bind s e p fun ρ1 H1 S1 v d s1 e1 x1 v1 p1 => ?_
  obtain ⟨k, ek, p2⟩ := ofO_bind p1
  refine ⟨k, truP_of s1 v1 ek, ?_⟩
  cases k with
  | true => exact iteT ⟨ρ1, τ, S1, s1, e1, p2⟩
  | false => exact iteF (p2.here s1 v1)
theorem v_not (ha : PE X a (Em X.K W ma)) : PE X (.UnaryOp .Not a pos) (Em X.K W (mNotV ma)) := PE_imp (pe_notT ha) fun σ H Q h => by
  obtain ⟨ρ, τ, S, s, e, p⟩ := h
  refine Em_bind s e p fun ρ1 H1 S1 v d s1 e1 x1 v1 p1 => ?_
  obtain ⟨k, ek, p2⟩ := ofO_bind p1
  exact ⟨k, truP_of s1 v1 ek, p2.here s1 (.bl _)⟩
/-- a if t else b -/
def mIf (t : MT) (a b : ME) : ME := fun τ S => (t τ S).bind fun k S1 => if k = true then a τ S1 else b τ S1
theorem z_if (hc : PT X c (Tm X.K W ta)) (ha : PE X a (Em X.K W ma)) (hb : PE X b (Em X.K W mb)) : PE X (.IfExp c a b pos) (Em X.K W (mIf ta ma mb)) := PE_imp (pe_ifExp hc ha hb) fun σ H Q h => by
  obtain ⟨ρ, τ, S, s, e, p⟩ := h
  refine Tm_bind s e p fun ρ1 H1 S1 k s1 e1 x1 p1 => ?_
  cases k with
  | true => exact iteT ⟨ρ1, τ, S1, s1, e1, p1⟩
  | false => exact iteF ⟨ρ1, τ, S1, s1, e1, p1⟩
/-- -x -/
def dNeg : D → Sto → R D
  | .int i, S => .ok (.int (-i)) S
  | _, _ => .bad
def mUn (f : D → Sto → R D) (a : ME) : ME := fun τ S => (a τ S).bind f
theorem z_neg (ha : PE X a (Em X.K W ma)) : PE X (.UnaryOp .USub a pos) (Em X.K W (mUn dNeg ma)) := PE_imp (pe_un un_neg ha) fun σ H Q h => by
  obtain ⟨ρ, τ, S, s, e, p⟩ := h
  refine Em_bind s e p fun ρ1 H1 S1 v d s1 e1 x1 v1 p1 => ?_
  unfold dNeg at p1
  split at p1
  · cases v1
    exact ⟨_, rfl, p1.here s1 (.int _)⟩
  · exact p1.elim
/-! ### arguments, displays -/
def aNil : MA := fun _ S => .ok [] S
def aCons (a : ME) (r : MA) : MA := fun τ S => (a τ S).bind fun x S1 => (r τ S1).bind fun xs S2 => .ok (x :: xs) S2
variable {es : List Expr} {mas : MA}
theorem a_nil : PA X [] (Am X.K W aNil) := PA_imp pa_nil fun σ H Q ⟨ρ, τ, S, s, e, p⟩ => p.here s .nil
theorem a_cons (ha : PE X a (Em X.K W ma)) (hr : PA X es (Am X.K W mas)) (hs : starEach (a :: es) X.env = (false, eval a X.env) :: starEach es X.env := by rfl) : PA X (a :: es) (Am X.K W (aCons ma mas)) := PA_imp (pa_cons ha hr hs) fun σ H Q h => by
  obtain ⟨ρ, τ, S, s, e, p⟩ := h
  refine Em_bind s e p fun ρ1 H1 S1 v d s1 e1 x1 v1 p1 => ?_
  exact Am_bind s1 e1 p1 fun ρ2 H2 S2 vs ds s2 e2 x2 v2 p2 => p2.here s2 (.cons (v1.mono x2) v2)
def mTup (r : MA) : ME := fun τ S => (r τ S).bind fun xs S1 => guardR (xs.length ≤ sizeLine) (.ok (.tup xs) S1)
def mLst (r : MA) : ME := fun τ S => (r τ S).bind fun xs S1 => guardR (xs.length ≤ sizeLine) (.ok (.lst xs) S1)
/-- a list that will be changed -/
def mLstN (r : MA) : ME := fun τ S => (r τ S).bind fun xs S1 => guardR (xs.length ≤ sizeLine) (.ok (.loc S1.length) (S1 ++ [.lst xs]))
theorem z_tup {x1} (ha : PA X es (Am X.K W mas)) : PE X (.Tuple es x1 pos) (Em X.K W (mTup mas)) := PE_imp (pe_tup ha) fun σ H Q h => by
  obtain ⟨ρ, τ, S, s, e, p⟩ := h
  refine Am_bind s e p fun ρ1 H1 S1 vs ds s1 e1 x1 v1 p1 => ?_
  obtain ⟨hz, p2⟩ := guardR_post p1
  exact ⟨by rw [v1.length]; exact hz, p2.newTup s1 v1⟩
theorem z_lst (ha : PA X es (Am X.K W mas)) : PE X (.List es pos) (Em X.K W (mLst mas)) := PE_imp (pe_lst ha) fun σ H Q h => by
  obtain ⟨ρ, τ, S, s, e, p⟩ := h
  refine Am_bind s e p fun ρ1 H1 S1 vs ds s1 e1 x1 v1 p1 => ?_
  obtain ⟨hz, p2⟩ := guardR_post p1
  exact ⟨by rw [v1.length]; exact hz, p2.newLst s1 v1⟩
theorem Post.newLoc {K : PySem.W.Frag} {Wk : XK} {ρ : Pl} {H : Hp} {S : Sto} {Q : VK} {ds : List D} (h : Post K Wk ρ H (.ok (.loc S.length) (S ++ [.lst ds])) (VR K) Q) (s : SR K ρ S H) {xs : List V} (r : VRs K ρ H xs ds) : ∀ p, H p = none → Q (.ref p) (upd H p (.lst xs)) := fun p hp =>
  h (ρ.push p) _ _ (Ext.push hp) (s.push hp ⟨xs, upd_same, r.mono (Ext.push hp)⟩) (.loc (Pl.push_get s))
theorem z_lstN (ha : PA X es (Am X.K W mas)) : PE X (.List es pos) (Em X.K W (mLstN mas)) := PE_imp (pe_lst ha) fun σ H Q h => by
  obtain ⟨ρ, τ, S, s, e, p⟩ := h
  refine Am_bind s e p fun ρ1 H1 S1 vs ds s1 e1 x1 v1 p1 => ?_
  obtain ⟨hz, p2⟩ := guardR_post p1
  exact ⟨by rw [v1.length]; exact hz, p2.newLoc s1 v1⟩

/-! ### calls -/
/-- a built-in by what it does of its arguments -/
def CallS (K : PySem.W.Frag) (f : List D → Sto → R D) (r : List V → Hp → VK → Prop) : Prop := ∀ (Wk : XK) (ρ : Pl) (S : Sto) (H : Hp) (vs : List V) (ds : List D) (Q : VK), SR K ρ S H → VRs K ρ H vs ds → Post K Wk ρ H (f ds S) (VR K) Q → r vs H Q
def mCall (f : List D → Sto → R D) (r : MA) : ME := fun τ S => (r τ S).bind f
theorem Em_call {K : PySem.W.Frag} {f : List D → Sto → R D} {r : List V → Hp → VK → Prop} (hs : CallS K f r) {σ : St} {H : Hp} {Q : VK} (h : Em K W (mCall f mas) σ H Q) : tCB r (Am K W mas) σ H Q := by
  obtain ⟨ρ, τ, S, s, e, p⟩ := h
  exact Am_bind s e p fun ρ1 H1 S1 vs ds s1 e1 x1 v1 p1 => hs _ ρ1 S1 H1 vs ds Q s1 v1 p1
variable {x : Str} {p : Pos} {id T : String} {r : List V → Hp → VK → Prop} {f : List D → Sto → R D}
theorem z_blt (hm : X.mg x = none) (hc : CallR X (.builtin id) r) (hs : CallS X.K f r) (hv : bootBuiltins x = some (.builtin id)) (ha : PA X (e :: es) (Am X.K W mas)) (hg : Gl X x := by rfl) (hn : x ≠ "__name__" := by decide) (hdb : (x == ("__debug__" : Str)) = false := by decide)
    (he : starEach (e :: es) X.env = (false, eval e X.env) :: starEach es X.env := by rfl) (hpl : (backTo pos (starEach es X.env)).any (·.1) = false := by rfl) : PE X (.Call (.Name x p) (e :: es) [] pos) (Em X.K W (mCall f mas)) :=
  PE_imp (pe_callB hc hg hm hv ha hn hdb he hpl) fun σ H Q h => Em_call hs h
theorem z_typ (hm : X.mg x = none) (hc : CallR X (.type T) r) (hs : CallS X.K f r) (hv : bootBuiltins x = some (.type T)) (ha : PA X (e :: es) (Am X.K W mas)) (hg : Gl X x := by rfl) (hn : x ≠ "__name__" := by decide) (hdb : (x == ("__debug__" : Str)) = false := by decide)
    (he : starEach (e :: es) X.env = (false, eval e X.env) :: starEach es X.env := by rfl) (hpl : (backTo pos (starEach es X.env)).any (·.1) = false := by rfl) : PE X (.Call (.Name x p) (e :: es) [] pos) (Em X.K W (mCall f mas)) :=
  PE_imp (pe_callTy hc hg hm hv ha hn hdb he hpl) fun σ H Q h => Em_call hs h
/-- a def's promise: it does what f says -/
def Sf (K : PySem.W.Frag) (f : List D → Sto → R D) : Sp := fun vs H Q E => ∃ ρ S ds, SR K ρ S H ∧ VRs K ρ H vs ds ∧ Post K E ρ H (f ds S) (VR K) Q
/-- a def that keeps its promise wherever it is called with room and no repr under way -/
structure FnG (P : Program) (w : World) (K : PySem.W.Frag) (mg : Str → Option Value) (base : Heap) (k : Nat) (g : Addr) (fd : FuncData) (ps : List Str) (f : List D → Sto → R D) : Prop where
  len : ∀ (ds : List D) (S : Sto), f ds S ≠ .bad → ds.length = ps.length
  run : ∀ (A : Around) (frs : List Env) (st : Shared) (H : Hp) (ar : Args) (us : List Value) (vs : List V) (Q : VK) (E : XK), Room k A → A.guards = some [] → Env0 P w K mg base A frs st H →
    BindsTo st fd ar (ps.zip us) → Vals vs us → Sf K f vs H Q E → codeAny (model P w) A (.call (.ref g) ar) (L2.CR (L2.CX P w) frs P w H st Q E) st
theorem Post.nbad {K : PySem.W.Frag} {Wk : XK} {ρ : Pl} {H : Hp} {A B : Type} {o : R A} {rel : Pl → Hp → B → A → Prop} {Q : B → Hp → Prop} (h : Post K Wk ρ H o rel Q) : o ≠ .bad := by
  rintro rfl; exact h.elim
theorem FnG.lenV {P : Program} {w : World} {K : PySem.W.Frag} {mg : Str → Option Value} {base : Heap} {k : Nat} {g : Addr} {fd : FuncData} {ps : List Str} (F : FnG P w K mg base k g fd ps f) {vs : List V} {H : Hp} {Q : VK} {E : XK} (h : Sf K f vs H Q E) : vs.length = ps.length := by
  obtain ⟨ρ, S, ds, s, v, p⟩ := h
  rw [v.length]; exact F.len ds S p.nbad
/-- the def at g is run on arguments in hand -/
theorem run_G {pins : List (Addr × Obj)} {st : Shared} {σ : St} {H : Hp} {Q : VK} {us : List Value} {vs : List V} {k : Nat} {g : Addr} {fd : FuncData} {ps : List Str} (F : FnG X.prog X.w X.K X.mg X.base k g fd ps f) (hr : Room k X.A) (hgd : X.A.guards = some []) (hb : Binds X.K fd ps [])
    (hx : ∀ σ, PassesAt (L2.CX X.prog X.w) X σ (fun c d H => W c d σ H)) (I : Inv X pins σ H st) (r : Vals vs us) (h : Sf X.K f vs H Q (fun c d H => W c d σ H)) : wpAny (model X.prog X.w) X.A (call (.ref g) us) (EP X pins σ Q) X.xe st := by
  have hl : (us ++ []).length = ps.length := by rw [List.append_nil, ← r.length]; exact F.lenV h
  have hb' := hb st us I.kIn hl
  rw [List.append_nil] at hb'
  have main := F.run X.A X.stack st H _ us vs Q _ hr hgd I.env0 hb' r h
  refine wpAny_call (codeAny_mono main ?_)
  intro res st' q
  match res, q with
  | .error e, q => exact hx σ pins H st e st' I q
  | .ok (.ret u), q => exact I.after q
  | .ok .next, q => exact False.elim q
  | .ok .brk, q => exact False.elim q
  | .ok .cont, q => exact False.elim q
theorem z_call {k : Nat} {g : Addr} {fd : FuncData} {ps : List Str} (F : FnG X.prog X.w X.K X.mg X.base k g fd ps f) (hr : Room k X.A) (hgd : X.A.guards = some []) (hm : X.mg x = some (.ref g)) (hk : PySem.W.keepIn X.K (.ref g) = true) (hb : Binds X.K fd ps [])
    (hx : ∀ σ, PassesAt (L2.CX X.prog X.w) X σ (fun c d H => W c d σ H)) (ha : PA X (e :: es) (Am X.K W mas)) (hg : Gl X x := by rfl) (hdb : (x == ("__debug__" : Str)) = false := by decide)
    (he : starEach (e :: es) X.env = (false, eval e X.env) :: starEach es X.env := by rfl) (hpl : (backTo pos (starEach es X.env)).any (·.1) = false := by rfl) : PE X (.Call (.Name x p) (e :: es) [] pos) (Em X.K W (mCall f mas)) := by
  constructor
  intro pins st σ H Q I h
  obtain ⟨ρ, τ, S, s, er, po⟩ := h
  have args := ha.run pos pins st σ H (fun vs H1 => Sf X.K f vs H1 Q (fun c d H => W c d σ H)) I (Am_bind s er po fun ρ1 H1 S1 vs ds s1 e1 x1 v1 p1 => ⟨ρ1, S1, ds, s1, v1, p1⟩)
  apply wpAny_Call_Name_kw
  apply ld_glob I hg hm _ hdb
  apply PySem.W.callWith_K (h₀ := X.base) I.ok.mod.kin hk _ he hpl
  apply thn args
  rintro us s1 ⟨vs, H1, I1, r, q⟩
  exact ⟨I1.kIn, run_G F hr hgd hb hx I1 r q⟩
/-- nothing is let out where nothing is let out -/
theorem no_out : ∀ σ, PassesAt (L2.CX X.prog X.w) X σ (fun _ _ _ => False) := fun σ _ _ _ _ _ _ h => by
  obtain ⟨_, _, _, _, _, _, _, _, _, _, _, _, z⟩ := h
  exact z.elim
end
/-! ### a def by its body -/
inductive RS where
  | nx (τ : Tau) (S : Sto) | rt (d : D) (S : Sto) | bk (τ : Tau) (S : Sto) | ct (τ : Tau) (S : Sto) | ex (τ : Tau) (c : Str) (fs : List (Str × D)) (S : Sto) | bad
abbrev MS := Tau → Sto → RS
def PostS (K : PySem.W.Frag) (W : WX) (ρ : Pl) (H : Hp) (σ : St) (o : RS) (D : Ends) : Prop := match o with
  | .nx τ' S' => ∀ ρ' σ' H', Ext ρ H ρ' H' → SR K ρ' S' H' → ER K ρ' H' τ' σ' → D.nx σ' H'
  | .bk τ' S' => ∀ ρ' σ' H', Ext ρ H ρ' H' → SR K ρ' S' H' → ER K ρ' H' τ' σ' → D.bk σ' H'
  | .ct τ' S' => ∀ ρ' σ' H', Ext ρ H ρ' H' → SR K ρ' S' H' → ER K ρ' H' τ' σ' → D.ct σ' H'
  | .rt d S' => ∀ ρ' H' v, Ext ρ H ρ' H' → SR K ρ' S' H' → VR K ρ' H' v d → D.rt v H'
  | .ex τ' c fs S' => ∀ ρ' σ' H' dd, Ext ρ H ρ' H' → SR K ρ' S' H' → ER K ρ' H' τ' σ' → XD K ρ' H' dd fs → W (clsAt K c) dd σ' H'
  | .bad => False
def Sm (K : PySem.W.Frag) (W : WX) (m : MS) : TS := fun D σ H => ∃ ρ τ S, SR K ρ S H ∧ ER K ρ H τ σ ∧ PostS K W ρ H σ (m τ S) D
end Z

/-! Z3: statements, targets, loops, comprehensions, what is walked. -/
namespace Z
open PySem L2

theorem PostS.ext {K : PySem.W.Frag} {W : WX} {ρ ρ1 : Pl} {H H1 : Hp} {σ σ1 : St} {o : RS} {D : Ends} (e : Ext ρ H ρ1 H1) (h : PostS K W ρ H σ o D) : PostS K W ρ1 H1 σ1 o D := by
  cases o with
  | nx τ S => exact fun r2 s2 H2 e2 => h r2 s2 H2 (e.trans e2)
  | bk τ S => exact fun r2 s2 H2 e2 => h r2 s2 H2 (e.trans e2)
  | ct τ S => exact fun r2 s2 H2 e2 => h r2 s2 H2 (e.trans e2)
  | rt d S => exact fun r2 H2 v e2 => h r2 H2 v (e.trans e2)
  | ex τ c fs S => exact fun r2 s2 H2 dd e2 => h r2 s2 H2 dd (e.trans e2)
  | bad => exact h
def liftS {A : Type} (o : R A) (τ : Tau) (k : A → Sto → RS) : RS := match o with
  | .ok a S => k a S
  | .ex c fs S => .ex τ c fs S
  | .bad => .bad
@[simp] theorem liftS_ok {A : Type} (a : A) (S : Sto) (τ : Tau) (k : A → Sto → RS) : liftS (.ok a S) τ k = k a S := rfl
@[simp] theorem liftS_ex {A : Type} (c fs) (S : Sto) (τ : Tau) (k : A → Sto → RS) : liftS (.ex c fs S) τ k = .ex τ c fs S := rfl
@[simp] theorem liftS_bad {A : Type} (τ : Tau) (k : A → Sto → RS) : liftS (.bad) τ k = .bad := rfl
section
variable {K : PySem.W.Frag} {W : WX} {σ : St} {H : Hp} {ρ : Pl} {τ : Tau} {S : Sto} {D : Ends}
theorem liftS_post {A B : Type} {o : R A} {k : A → Sto → RS} {rel : Pl → Hp → B → A → Prop} {Q1 : B → Hp → Prop} (r : ER K ρ H τ σ) (h : PostS K W ρ H σ (liftS o τ k) D)
    (kk : ∀ ρ1 H1 S1 v d, SR K ρ1 S1 H1 → ER K ρ1 H1 τ σ → Ext ρ H ρ1 H1 → rel ρ1 H1 v d → PostS K W ρ1 H1 σ (k d S1) D → Q1 v H1) : Post K (fun c d H' => W c d σ H') ρ H o rel Q1 := by
  cases o with
  | ok d S' => exact fun r2 H2 v e2 s2 v2 => kk r2 H2 S' v d s2 (r.mono e2) e2 v2 (PostS.ext e2 h)
  | ex c fs S' => exact fun r2 H2 dd e2 s2 x2 => h r2 σ H2 dd e2 s2 (r.mono e2) x2
  | bad => exact h
theorem Em_S {m : ME} {k : V → Sto → RS} {kd : Z.D → Sto → RS} {Q1 : VK} (s : SR K ρ S H) (r : ER K ρ H τ σ) (h : PostS K W ρ H σ (liftS (m τ S) τ kd) D)
    (kk : ∀ ρ1 H1 S1 v d, SR K ρ1 S1 H1 → ER K ρ1 H1 τ σ → Ext ρ H ρ1 H1 → VR K ρ1 H1 v d → PostS K W ρ1 H1 σ (kd d S1) D → Q1 v H1) : Em K W m σ H Q1 := ⟨ρ, τ, S, s, r, liftS_post r h kk⟩
theorem Tm_S {m : MT} {kd : Bool → Sto → RS} {Q1 : Bool → Hp → Prop} (s : SR K ρ S H) (r : ER K ρ H τ σ) (h : PostS K W ρ H σ (liftS (m τ S) τ kd) D)
    (kk : ∀ ρ1 H1 S1 b, SR K ρ1 S1 H1 → ER K ρ1 H1 τ σ → Ext ρ H ρ1 H1 → PostS K W ρ1 H1 σ (kd b S1) D → Q1 b H1) : Tm K W m σ H Q1 := ⟨ρ, τ, S, s, r, liftS_post r h fun ρ1 H1 S1 v d s1 r1 e1 v1 p1 => by
      have v1' : v = d := v1
      subst v1'; exact kk ρ1 H1 S1 v s1 r1 e1 p1⟩
theorem Am_S {m : MA} {kd : List Z.D → Sto → RS} {Q1 : List V → Hp → Prop} (s : SR K ρ S H) (r : ER K ρ H τ σ) (h : PostS K W ρ H σ (liftS (m τ S) τ kd) D)
    (kk : ∀ ρ1 H1 S1 v d, SR K ρ1 S1 H1 → ER K ρ1 H1 τ σ → Ext ρ H ρ1 H1 → VRs K ρ1 H1 v d → PostS K W ρ1 H1 σ (kd d S1) D → Q1 v H1) : Am K W m σ H Q1 := ⟨ρ, τ, S, s, r, liftS_post r h kk⟩
theorem PostS.here (h : PostS K W ρ H σ (.nx τ S) D) (s : SR K ρ S H) {σ' : St} (r : ER K ρ H τ σ') : D.nx σ' H := h ρ σ' H Ext.refl s r
theorem ER.set {v : V} {d : Z.D} (r : ER K ρ H τ σ) (i : Nat) (h : VR K ρ H v d) : ER K ρ H (τ.set i (some d)) (σ.set i (some v)) := by
  refine ⟨by simp [r.1], fun j e hj => ?_⟩
  by_cases hi : j = i
  · subst hi
    have hl : j < τ.length := by
      have := (List.getElem?_eq_some_iff.mp hj).1
      simpa using this
    rw [List.getElem?_set_self hl] at hj
    cases hj
    refine ⟨v, ?_, h⟩
    rw [List.getElem?_set_self (by rw [← r.1]; exact hl)]
  · rw [List.getElem?_set_ne (Ne.symm hi)] at hj
    obtain ⟨w, h1, h2⟩ := r.2 j e hj
    exact ⟨w, by rw [List.getElem?_set_ne (Ne.symm hi)]; exact h1, h2⟩
end

/-! ### small statements -/
def sNil : MS := fun τ S => .nx τ S
def sSeq (a b : MS) : MS := fun τ S => match a τ S with
  | .nx τ' S' => b τ' S'
  | o => o
def sExpr (m : ME) : MS := fun τ S => liftS (m τ S) τ fun _ S1 => .nx τ S1
def sRet (m : ME) : MS := fun τ S => liftS (m τ S) τ fun d S1 => .rt d S1
def sIf (t : MT) (a b : MS) : MS := fun τ S => liftS (t τ S) τ fun k S1 => if k = true then a τ S1 else b τ S1
def sAsg (i : Nat) (m : ME) : MS := fun τ S => liftS (m τ S) τ fun d S1 => .nx (τ.set i (some d)) S1
def sBk : MS := fun τ S => .bk τ S
section
variable {X : Cx} {W : WX} {st : Stmt} {rest body : List Stmt} {m n : MS} {e : Expr} {me : ME} {t : MT} {pos : Pos}
theorem ss_nil : PSs X [] (Sm X.K W sNil) := PSs_imp pss_nil fun D σ H ⟨ρ, τ, S, s, r, p⟩ => p.here s r
theorem ss_cons (h1 : PS X st (Sm X.K W m)) (h2 : PSs X rest (Sm X.K W n)) : PSs X (st :: rest) (Sm X.K W (sSeq m n)) := PSs_imp (pss_cons h1 h2) fun D σ H ⟨ρ, τ, S, s, r, p⟩ => by
  refine ⟨ρ, τ, S, s, r, ?_⟩
  unfold sSeq at p
  cases q : m τ S with
  | nx τ' S' =>
    rw [q] at p
    exact fun ρ' σ' H' e' s' r' => ⟨ρ', τ', S', s', r', PostS.ext e' p⟩
  | _ => rw [q] at p; exact p
theorem ss_one (h1 : PS X st (Sm X.K W m)) : PSs X [st] (Sm X.K W m) := pss_one h1
theorem s_expr (he : PE X e (Em X.K W me)) (hs : swapsWith e none pos.line X.env = pure false := by rfl) : PS X (.Expr e pos) (Sm X.K W (sExpr me)) := PS_imp (ps_expr he hs) fun D σ H ⟨ρ, τ, S, s, r, p⟩ =>
  Em_S (k := fun _ _ => .bad) s r p fun ρ1 H1 S1 v d s1 r1 e1 v1 p1 => p1.here s1 r1
theorem s_ret (he : PE X e (Em X.K W me)) : PS X (.Return (some e) pos) (Sm X.K W (sRet me)) := PS_imp (ps_ret he) fun D σ H ⟨ρ, τ, S, s, r, p⟩ =>
  Em_S (k := fun _ _ => .bad) s r p fun ρ1 H1 S1 v d s1 r1 e1 v1 p1 => p1 ρ1 H1 v Ext.refl s1 v1
theorem s_if {c : Expr} {a b : List Stmt} (hc : PT X c (Tm X.K W t)) (ha : PSs X a (Sm X.K W m)) (hb : PSs X b (Sm X.K W n)) : PS X (.If c a b pos) (Sm X.K W (sIf t m n)) := PS_imp (ps_if hc ha hb) fun D σ H ⟨ρ, τ, S, s, r, p⟩ =>
  Tm_S s r p fun ρ1 H1 S1 k s1 r1 e1 p1 => by
    cases k with
    | true => exact iteT ⟨ρ1, τ, S1, s1, r1, p1⟩
    | false => exact iteF ⟨ρ1, τ, S1, s1, r1, p1⟩
theorem s_set0 {i : Nat} {x : Str} {pos' : Pos} (he : PE X e (Em X.K W me)) (h : PS X (.Assign [.Name x pos'] e pos) (tAsg (Em X.K W me) (gName i))) : PS X (.Assign [.Name x pos'] e pos) (Sm X.K W (sAsg i me)) := PS_imp h fun D σ H ⟨ρ, τ, S, s, r, p⟩ =>
  Em_S (k := fun _ _ => .bad) s r p fun ρ1 H1 S1 v d s1 r1 e1 v1 p1 => p1.here s1 (r1.set i v1)
end

/-! ### targets of names -/
inductive Tgt where | nm (i : Nat) | tp (is : List Nat)
def setAll : List Nat → List D → Tau → Option Tau
  | [], [], τ => some τ
  | i :: is, d :: ds, τ => setAll is ds (τ.set i (some d))
  | _, _, _ => none
def bindT : Tgt → D → Tau → Option Tau
  | .nm i, d, τ => some (τ.set i (some d))
  | .tp is, .tup ds, τ => setAll is ds τ
  | .tp _, _, _ => none
def gNames : List Nat → TGs
  | [] => gNil
  | i :: is => gCons (gName i) (gNames is)
def tgOf (K : PySem.W.Frag) : Tgt → TG
  | .nm i => gName i
  | .tp is => gTup K is.length (gNames is)
def Tgt.ix : Tgt → List Nat
  | .nm i => [i]
  | .tp is => is
/-- the slots differ at the places alone -/
def Diff (is : List Nat) (σ σ' : St) : Prop := σ'.length = σ.length ∧ ∀ j, j ∉ is → σ'[j]? = σ[j]?
theorem gNames_of {K : PySem.W.Frag} {ρ : Pl} {H : Hp} {Q : St → Hp → Prop} : ∀ (is : List Nat) (ds : List D) (vs : List V) (τ τ' : Tau) (σ : St), setAll is ds τ = some τ' → VRs K ρ H vs ds → ER K ρ H τ σ → (∀ σ', ER K ρ H τ' σ' → Diff is σ σ' → Q σ' H) → gNames is vs σ H Q
  | [], ds, vs, τ, τ', σ, h, r, e, k => by
    cases ds with
    | nil =>
      cases r
      simp only [setAll, Option.some.injEq] at h
      subst h
      exact ⟨rfl, k σ e ⟨rfl, fun _ _ => rfl⟩⟩
    | cons d ds => simp [setAll] at h
  | i :: is, ds, vs, τ, τ', σ, h, r, e, k => by
    cases r with
    | nil => simp [setAll] at h
    | cons r rs =>
      simp only [setAll] at h
      refine ⟨_, _, rfl, ?_⟩
      refine gNames_of is _ _ _ τ' _ h rs (e.set i r) fun σ' e' d' => k σ' e' ⟨d'.1.trans (by simp), fun j hj => ?_⟩
      have hj' : j ≠ i ∧ j ∉ is := by simpa using hj
      rw [d'.2 j hj'.2, List.getElem?_set_ne (Ne.symm hj'.1)]
theorem tgOf_of {K : PySem.W.Frag} {ρ : Pl} {H : Hp} {Q : St → Hp → Prop} {g : Tgt} {d : D} {v : V} {τ τ' : Tau} {σ : St} (h : bindT g d τ = some τ') (r : VR K ρ H v d) (e : ER K ρ H τ σ) (k : ∀ σ', ER K ρ H τ' σ' → Diff g.ix σ σ' → Q σ' H) : tgOf K g v σ H Q := by
  cases g with
  | nm i =>
    simp only [bindT, Option.some.injEq] at h
    subst h
    exact k _ (e.set i r) ⟨by simp, fun j hj => by
      have : j ≠ i := by simpa [Tgt.ix] using hj
      rw [List.getElem?_set_ne (Ne.symm this)]⟩
  | tp is =>
    cases d with
    | tup ds =>
      obtain ⟨a, xs, rfl, ht, hs⟩ := tup_of r
      refine ⟨a, xs, rfl, ht, ?_, gNames_of is ds xs τ τ' σ h hs e k⟩
      have : ∀ (is : List Nat) (ds : List D) (τ τ' : Tau), setAll is ds τ = some τ' → ds.length = is.length := by
        intro is
        induction is with
        | nil => intro ds τ τ' h; cases ds <;> simp [setAll] at h ⊢
        | cons i is ih => intro ds τ τ' h; cases ds with
          | nil => simp [setAll] at h
          | cons d ds => simp only [setAll] at h; simp [ih _ _ _ h]
      rw [hs.length]; exact this _ _ _ _ h
    | _ => simp [bindT] at h
/-- (a, b, ..) = e, by a tuple -/
def sTup (is : List Nat) (m : ME) : MS := fun τ S => liftS (m τ S) τ fun d S1 => match bindT (.tp is) d τ with
  | some τ' => .nx τ' S1
  | none => .bad
section
variable {X : Cx} {W : WX} {e tg : Expr} {me : ME} {pos : Pos}
theorem s_tup {is : List Nat} (he : PE X e (Em X.K W me)) (hg : PG X tg (tgOf X.K (.tp is))) (hs : swapsWithSole [tg] e pos.line X.env = pure false := by rfl) (hw : swappedStores [tg] e X.env = pure none := by rfl)
    (h1 : (assignEach [tg] X.env).map (·.2) = [assign tg X.env] := by rfl) : PS X (.Assign [tg] e pos) (Sm X.K W (sTup is me)) := PS_imp (ps_asg he hg hs hw h1) fun D σ H ⟨ρ, τ, S, s, r, p⟩ =>
  Em_S (k := fun _ _ => .bad) s r p fun ρ1 H1 S1 v d s1 r1 e1 v1 p1 => by
    split at p1
    · rename_i τ' e
      exact tgOf_of e v1 r1 fun σ' r' _ => p1.here s1 r'
    · exact p1.elim
/-- a, b = x, y | a, b, c = x, y, z : plain names, no tuple made -/
def sPar (is : List Nat) (ms : MA) : MS := fun τ S => liftS (ms τ S) τ fun ds S1 => match setAll is ds τ with
  | some τ' => .nx τ' S1
  | none => .bad
theorem s_par2 {i j : Nat} {mas : MA} {st : Stmt} (hij : i ≠ j) {es : List Expr} (ha : PA X es (Am X.K W mas)) (h : PS X st (tPar i j (Am X.K W mas))) : PS X st (Sm X.K W (sPar [i, j] mas)) := PS_imp h fun D σ H ⟨ρ, τ, S, s, r, p⟩ =>
  Am_S s r p fun ρ1 H1 S1 vs ds s1 r1 e1 v1 p1 => by
    cases v1 with
    | nil => exact p1.elim
    | cons a1 v2 => cases v2 with
      | nil => exact p1.elim
      | cons a2 v3 => cases v3 with
        | nil => exact ⟨_, _, rfl, PostS.here p1 s1 ((r1.set i a1).set j a2)⟩
        | cons a3 v4 => exact p1.elim
end

/-! ### what is walked -/
def keepOk (ks : List (Nat × C)) (S : Sto) : Prop := ∀ p ∈ ks, S[p.1]? = some p.2
structure Items where
  ds : List D
  keep : List (Nat × C)
abbrev MI := Tau → Sto → R Items
/-- from a heap on the iterator J gives the things ds, while the cells of keep stand -/
def IterOK (K : PySem.W.Frag) (ρ0 : Pl) (H0 : Hp) (J : It) (it : Items) : Prop := ∀ ρ H S, Ext ρ0 H0 ρ H → SR K ρ S H → keepOk it.keep S →
  (∀ i, i < it.ds.length → J.go i H) ∧ J.stop it.ds.length H ∧ ∀ i x H', i < it.ds.length → J.yld i H x H' → ∃ d, it.ds[i]? = some d ∧ Ext ρ H ρ H' ∧ SR K ρ S H' ∧ VR K ρ H' x d
def Im (K : PySem.W.Frag) (W : WX) (m : MI) : TI := fun σ H R' => ∃ ρ τ S, SR K ρ S H ∧ ER K ρ H τ σ ∧ match m τ S with
  | .ok it S' => ∀ ρ' H' J, Ext ρ H ρ' H' → SR K ρ' S' H' → keepOk it.keep S' → IterOK K ρ' H' J it → R' J H'
  | .ex c fs S' => ∀ ρ' H' dd, Ext ρ H ρ' H' → SR K ρ' S' H' → XD K ρ' H' dd fs → W (clsAt K c) dd σ H'
  | .bad => False
theorem PI_imp {X : Cx} {tg e : Expr} {t t' : TI} (h : PI X tg e t) (k : ∀ σ H Q, t' σ H Q → t σ H Q) : PI X tg e t' := ⟨fun pins s σ H Q I w => h.run pins s σ H Q I (k σ H Q w)⟩

/-- whether the cells stand -/
noncomputable def keepB (ks : List (Nat × C)) (S : Sto) : Bool := @decide (keepOk ks S) (Classical.propDecidable _)
theorem keepB_iff {ks : List (Nat × C)} {S : Sto} : keepB ks S = true ↔ keepOk ks S := by unfold keepB; exact @decide_eq_true_iff _ (Classical.propDecidable _)
@[simp] theorem keepB_nil (S : Sto) : keepB [] S = true := keepB_iff.mpr (fun _ h => nomatch h)
/-- the turns of a for -/
noncomputable def forL (ks : List (Nat × C)) (g : Tgt) (body : MS) : List D → Tau → Sto → RS
  | [], τ, S => if keepB ks S = true then .nx τ S else .bad
  | d :: ds, τ, S => if keepB ks S = true then (match bindT g d τ with
    | none => .bad
    | some τ1 => match body τ1 S with
      | .nx τ2 S2 => forL ks g body ds τ2 S2
      | .ct τ2 S2 => forL ks g body ds τ2 S2
      | .bk τ2 S2 => .nx τ2 S2
      | o => o) else .bad
noncomputable def sFor (it : MI) (g : Tgt) (body : MS) : MS := fun τ S => liftS (it τ S) τ fun i S1 => forL i.keep g body i.ds τ S1
section
variable {X : Cx} {W : WX} {iter tg : Expr} {body : List Stmt} {mi : MI} {g : Tgt} {mb : MS} {pos : Pos}
theorem drop_cons {α : Type} {l : List α} {i : Nat} {d : α} (h : l[i]? = some d) : l.drop i = d :: l.drop (i + 1) := by
  obtain ⟨hl, e⟩ := List.getElem?_eq_some_iff.mp h
  rw [List.drop_eq_getElem_cons hl, e]
theorem s_for (hp : PassesOwn (model X.prog X.w) X.A X.env X.xe) (hc : X.calm = true) (hi : PI X tg iter (Im X.K W mi)) (hg : PG X tg (tgOf X.K g)) (hb : PSs X body (Sm X.K W mb))
    (hs : ∀ x, foldedSetIterable iter X.env x = pure x := by intro _; rfl) : PS X (.For tg iter body [] pos) (Sm X.K W (sFor mi g mb)) := PS_imp (ps_for hp hc hi hg hb hs) fun D σ H ⟨ρ, τ, S, s, r, p⟩ => by
  refine ⟨ρ, τ, S, s, r, ?_⟩
  unfold sFor at p
  cases q : mi τ S with
  | bad => rw [q] at p; exact p
  | ex c fs S' =>
    rw [q] at p
    exact fun ρ' H' dd e' s' x' => p ρ' σ H' dd e' s' (r.mono e') x'
  | ok it S1 =>
    rw [q] at p
    intro ρ1 H1 J e1 s1 k1 ok
    refine ⟨fun i m σ H => m = it.ds.length - i ∧ i ≤ it.ds.length ∧ ∃ ρ τ S, SR X.K ρ S H ∧ ER X.K ρ H τ σ ∧ Ext ρ1 H1 ρ H ∧ PostS X.K W ρ H σ (forL it.keep g mb (it.ds.drop i) τ S) D, ⟨it.ds.length, by simp, Nat.zero_le _, ρ1, τ, S1, s1, r.mono e1, Ext.refl, PostS.ext e1 p⟩, ?_⟩
    rintro i m σ2 H2 ⟨rfl, hi, ρ2, τ2, S2, s2, r2, e2, p2⟩
    have kk : keepOk it.keep S2 := by
      cases q2 : it.ds.drop i with
      | nil =>
        rw [q2] at p2; unfold forL at p2; split at p2
        · exact keepB_iff.mp (by assumption)
        · exact p2.elim
      | cons d ds =>
        rw [q2] at p2; unfold forL at p2; split at p2
        · exact keepB_iff.mp (by assumption)
        · exact p2.elim
    obtain ⟨go, stop, yld⟩ := ok ρ2 H2 S2 e2 s2 kk
    by_cases hlt : i < it.ds.length
    · refine .inr ⟨go i hlt, fun σ H => ∃ ρ τ S, SR X.K ρ S H ∧ ER X.K ρ H τ σ ∧ Ext ρ1 H1 ρ H ∧ PostS X.K W ρ H σ (forL it.keep g mb (it.ds.drop (i + 1)) τ S) D, fun σ' H' h' => ⟨it.ds.length - (i + 1), by omega, rfl, hlt, h'⟩, fun x H3 y => ?_⟩
      obtain ⟨d, hd, e3, s3, v3⟩ := yld i x H3 hlt y
      rw [drop_cons hd] at p2
      unfold forL at p2
      rw [if_pos (keepB_iff.mpr kk)] at p2
      cases q2 : bindT g d τ2 with
      | none => rw [q2] at p2; exact p2.elim
      | some τ3 =>
        rw [q2] at p2
        simp only at p2
        refine tgOf_of q2 v3 (r2.mono e3) fun σ3 r3 _ => ⟨ρ2, τ3, S2, s3, r3, ?_⟩
        have p3 := PostS.ext (σ1 := σ3) e3 p2
        cases q3 : mb τ3 S2 with
        | nx τ4 S4 => rw [q3] at p3; exact fun ρ4 σ4 H4 e4 s4 r4 => ⟨ρ4, τ4, S4, s4, r4, (e2.trans e3).trans e4, PostS.ext e4 p3⟩
        | ct τ4 S4 => rw [q3] at p3; exact fun ρ4 σ4 H4 e4 s4 r4 => ⟨ρ4, τ4, S4, s4, r4, (e2.trans e3).trans e4, PostS.ext e4 p3⟩
        | bk τ4 S4 => rw [q3] at p3; exact fun ρ4 σ4 H4 e4 s4 r4 => p3 ρ4 σ4 H4 e4 s4 r4
        | rt d4 S4 => rw [q3] at p3; exact p3
        | ex τ4 c fs S4 => rw [q3] at p3; exact p3
        | bad => rw [q3] at p3; exact p3
    · have e : i = it.ds.length := by omega
      subst e
      rw [List.drop_length] at p2
      unfold forL at p2
      rw [if_pos (keepB_iff.mpr kk)] at p2
      exact .inl ⟨stop, p2.here s2 r2⟩
end
end Z

/-! Z4: comprehensions; lists, tuples, ranges, zip, enumerate walked; while; stores. -/
namespace Z
open PySem L2 RZ

/-! ### comprehensions -/
def noEx {A : Type} : R A → R A
  | .ok a S => .ok a S
  | _ => .bad
@[simp] theorem noEx_ok {A : Type} (a : A) (S : Sto) : noEx (.ok a S) = .ok a S := rfl
@[simp] theorem noEx_ex {A : Type} (c fs) (S : Sto) : noEx (.ex c fs S : R A) = .bad := rfl
@[simp] theorem noEx_bad {A : Type} : noEx (.bad : R A) = .bad := rfl
def wipeT (τ : Tau) : List Nat → Tau
  | [] => τ
  | v :: vs => (wipeT τ vs).set v none
noncomputable def lcL (ks : List (Nat × C)) (g : Tgt) (vs : List Nat) (t : MT) (e : ME) : List D → Tau → Sto → R (List D)
  | [], τ, S => if keepB ks S = true then .ok [] S else .bad
  | d :: ds, τ, S => if keepB ks S = true then (match bindT g d (wipeT τ vs) with
    | none => .bad
    | some τ1 => (noEx (t τ1 S)).bind fun b S1 => if b = true then (noEx (e τ1 S1)).bind fun y S2 => (lcL ks g vs t e ds τ S2).bind fun ys S3 => .ok (y :: ys) S3 else lcL ks g vs t e ds τ S1) else .bad
noncomputable def mComp (it : MI) (g : Tgt) (vs : List Nat) (t : MT) (e : ME) : ME := fun τ S => (it τ S).bind fun i S1 => guardR (i.ds.length ≤ sizeLine) ((lcL i.keep g vs t e i.ds τ S1).bind fun ys S2 => .ok (.lst ys) S2)
abbrev W0 : WX := fun _ _ _ _ => False
section
variable {K : PySem.W.Frag} {σ : St} {H : Hp} {ρ : Pl} {τ : Tau} {S : Sto}
theorem ER.wipe (r : ER K ρ H τ σ) : ∀ vs : List Nat, ER K ρ H (wipeT τ vs) (L2.wipe σ vs)
  | [] => r
  | v :: vs => by
    have ih := ER.wipe r vs
    refine ⟨by simp [wipeT, L2.wipe, ih.1], fun j d h => ?_⟩
    unfold wipeT at h
    by_cases hj : j = v
    · subst hj
      by_cases hl : j < (wipeT τ vs).length
      · rw [List.getElem?_set_self hl] at h; cases h
      · rw [List.getElem?_eq_none (by simpa using hl)] at h; cases h
    · rw [List.getElem?_set_ne (Ne.symm hj)] at h
      obtain ⟨x, h1, h2⟩ := ih.2 j d h
      exact ⟨x, by unfold L2.wipe; rw [List.getElem?_set_ne (Ne.symm hj)]; exact h1, h2⟩
theorem wipe_at {σ : St} {j : Nat} : ∀ {vs : List Nat}, j ∈ vs → j < σ.length → (L2.wipe σ vs)[j]? = some none
  | v :: vs, h, hl => by
    unfold L2.wipe
    by_cases hj : j = v
    · subst hj; rw [List.getElem?_set_self (by rw [wipe_length]; exact hl)]
    · rw [List.getElem?_set_ne (Ne.symm hj)]
      exact wipe_at ((List.mem_cons.mp h).resolve_left hj) hl
theorem wipe_diff {σ σ' : St} {is vs : List Nat} (h : Diff is (L2.wipe σ vs) σ') (hi : ∀ i ∈ is, i ∈ vs) : L2.wipe σ' vs = L2.wipe σ vs := by
  have hl : σ'.length = σ.length := h.1.trans (wipe_length σ vs)
  apply List.ext_getElem?
  intro j
  by_cases hj : j ∈ vs
  · by_cases hs : j < σ.length
    · rw [wipe_at hj (by omega), wipe_at hj hs]
    · rw [List.getElem?_eq_none (by rw [wipe_length]; omega), List.getElem?_eq_none (by rw [wipe_length]; omega)]
  · rw [wipe_out hj, h.2 j (fun z => hj (hi j z))]
end

section
variable {X : Cx} {W : WX} {iter tg elt : Expr} {ifs : List Expr} {scope : Scope} {own : List (Str × Nat)} {mi : MI} {g : Tgt} {t : MT} {me : ME} {pos : Pos}
theorem Em_comp {K : PySem.W.Frag} {vs : List Nat} (hi : ∀ i ∈ g.ix, i ∈ vs) {σ : St} {H : Hp} {Q : VK} (h : Em K W (mComp mi g vs t me) σ H Q) : tLc (Im K W mi) (tgOf K g) (Tm K W0 t) (Em K W0 me) vs σ H Q := by
  obtain ⟨ρ, τ, S, s, r, p⟩ := h
  refine ⟨ρ, τ, S, s, r, ?_⟩
  unfold mComp at p
  cases q : mi τ S with
  | bad => rw [q] at p; exact p
  | ex c fs S' => rw [q] at p; exact p
  | ok it S1 =>
    rw [q] at p
    intro ρ1 H1 J e1 s1 k1 ok D hD
    obtain ⟨hz, p⟩ := guardR_post p
    have D1 : D ∉ ρ1.hid := fun z => s1.fresh hD (.inr z)
    have p := Post.ext e1 p
    -- the invariant: what is done (acc) stands at D, hidden; what is left gives the rest
    refine ⟨fun i m H2 => m = it.ds.length - i ∧ i ≤ it.ds.length ∧ ∃ ρ2 S2 acc xs, SR K ρ2 S2 H2 ∧ D ∈ ρ2.hid ∧ Ext ρ1 H1 ρ2 H2 ∧ H2 D = some (.lst xs) ∧ VRs K ρ2 H2 xs acc ∧ acc.length ≤ i ∧
      Post K (fun c d H' => W c d σ H') ρ1 H1 ((lcL it.keep g vs t me (it.ds.drop i) τ S2).bind fun ys S3 => .ok (.lst (acc ++ ys)) S3) (VR K) Q,
      ⟨it.ds.length, by simp, Nat.zero_le _, ρ1.hide D, S1, [], [], s1.hide hD, List.mem_cons_self, Ext.hide hD, upd_same, .nil, Nat.le_refl _, by simpa using p⟩, ?_⟩
    rintro i m H2 ⟨rfl, hi2, ρ2, S2, acc, xs, s2, d2, e2, hD2, ha2, hl2, p2⟩
    have kk : keepOk it.keep S2 := by
      cases q2 : it.ds.drop i with
      | nil =>
        rw [q2] at p2; unfold lcL at p2; split at p2
        · exact keepB_iff.mp (by assumption)
        · exact p2.elim
      | cons d ds =>
        rw [q2] at p2; unfold lcL at p2; split at p2
        · exact keepB_iff.mp (by assumption)
        · exact p2.elim
    obtain ⟨go, stop, yld⟩ := ok ρ2 H2 S2 e2 s2 kk
    by_cases hlt : i < it.ds.length
    · refine .inr ⟨go i hlt, fun H2 => i + 1 ≤ it.ds.length ∧ ∃ ρ2 S2 acc xs, SR K ρ2 S2 H2 ∧ D ∈ ρ2.hid ∧ Ext ρ1 H1 ρ2 H2 ∧ H2 D = some (.lst xs) ∧ VRs K ρ2 H2 xs acc ∧ acc.length ≤ i + 1 ∧
        Post K (fun c d H' => W c d σ H') ρ1 H1 ((lcL it.keep g vs t me (it.ds.drop (i + 1)) τ S2).bind fun ys S3 => .ok (.lst (acc ++ ys)) S3) (VR K) Q, fun H' h' => ⟨it.ds.length - (i + 1), by omega, rfl, h'⟩, fun x H3 y => ?_⟩
      obtain ⟨d, hd, e3, s3, v3⟩ := yld i x H3 hlt y
      rw [drop_cons hd] at p2
      unfold lcL at p2
      rw [if_pos (keepB_iff.mpr kk)] at p2
      cases q2 : bindT g d (wipeT τ vs) with
      | none => rw [q2] at p2; exact p2.elim
      | some τ3 =>
        rw [q2] at p2
        simp only at p2
        have r3 : ER K ρ2 H3 (wipeT τ vs) (L2.wipe σ vs) := ((r.mono (e1.trans e2)).mono e3).wipe vs
        refine tgOf_of q2 v3 r3 fun σ3 r4 df => ⟨wipe_diff df hi, ρ2, τ3, S2, s3, r4, ?_⟩
        cases q3 : t τ3 S2 with
        | ex c fs S' => rw [q3] at p2; exact p2.elim
        | bad => rw [q3] at p2; exact p2.elim
        | ok b S4 =>
          rw [q3] at p2
          intro ρ4 H4 b' e4 s4 hb
          have hb' : b' = b := hb
          subst hb'
          simp only [noEx_ok, R.bind_ok] at p2
          have hD4 : H4 D = some (.lst xs) := e4.keep _ _ (e3.keep _ _ hD2 (by (intro ps z; cases z)) fun z => (s2.hd D d2).1 z) (by (intro ps z; cases z)) fun z => (s3.hd D d2).1 z
          have d4 : D ∈ ρ4.hid := e4.hid _ (e3.hid _ d2)
          have ha4 := (ha2.mono e3).mono e4
          have e14 : Ext ρ1 H1 ρ4 H4 := (e2.trans e3).trans e4
          cases b' with
          | false =>
            rw [if_neg (by decide)] at p2
            refine iteF ⟨hlt, ρ4, S4, acc, xs, s4, d4, e14, hD4, ha4, Nat.le_succ_of_le hl2, p2⟩
          | true =>
            rw [if_pos rfl] at p2
            refine iteT ⟨ρ4, τ3, S4, s4, r4.mono e4, ?_⟩
            cases q5 : me τ3 S4 with
            | ex c fs S' => rw [q5] at p2; exact p2.elim
            | bad => rw [q5] at p2; exact p2.elim
            | ok z S5 =>
              rw [q5] at p2
              intro ρ5 H5 yv e5 s5 v5
              simp only [noEx_ok, R.bind_ok] at p2
              have hD5 : H5 D = some (.lst xs) := e5.keep _ _ hD4 (by (intro ps z; cases z)) fun z => (s4.hd D d4).1 z
              have d5 : D ∈ ρ5.hid := e5.hid _ d4
              have hlen : xs.length ≤ i := by rw [ha2.length]; exact hl2
              refine ⟨xs, hD5, by omega, hlt, ρ5, S5, acc ++ [z], xs ++ [yv], s5.rehide d5, d5, (e14.trans e5).rehide hD, upd_same, (((ha4.mono e5).append (.cons v5 .nil))).rehide (.inr d5), by simpa using hl2, ?_⟩
              have : ((lcL it.keep g vs t me (it.ds.drop (i + 1)) τ S5).bind fun ys S3 => R.ok (Z.D.lst (acc ++ [z] ++ ys)) S3) = (((lcL it.keep g vs t me (it.ds.drop (i + 1)) τ S5).bind fun ys S3 => .ok (z :: ys) S3).bind fun ys S3 => .ok (Z.D.lst (acc ++ ys)) S3) := by
                cases lcL it.keep g vs t me (it.ds.drop (i + 1)) τ S5 with
                | ok ys S3 => simp
                | ex c fs S3 => rfl
                | bad => rfl
              rw [this]; exact p2
    · have e : i = it.ds.length := by omega
      subst e
      rw [List.drop_length] at p2
      unfold lcL at p2
      rw [if_pos (keepB_iff.mpr kk)] at p2
      simp only [R.bind_ok, List.append_nil] at p2
      refine .inl ⟨stop, p2 (ρ2.bare D) H2 _ (e2.bare D1) s2.unhide (.lst hD2 (fun z => ?_) ha2.unhide)⟩
      rcases z with z | z
      · exact (s2.hd D d2).1 z
      · exact of_decide_eq_true (List.mem_filter.mp z).2 rfl
theorem z_comp (hc : X.calm = true) (hN : X.N.Nodup) (hi : PI X tg iter (Im X.K W mi)) (ok : BlkOk X.N X.env.scope scope own)
    (hg : ∀ (s : Shared) (H : Hp) (C : Addr) (cl : List (Str × Addr)) (fp : List Addr), PG (X.blk s H scope (compEnvC scope cl C X.env) fp) tg (tgOf X.K g)) (ht : ∀ (s : Shared) (H : Hp) (C : Addr) (cl : List (Str × Addr)) (fp : List Addr), PTs (X.blk s H scope (compEnvC scope cl C X.env) fp) ifs (Tm X.K W0 t))
    (he : ∀ (s : Shared) (H : Hp) (C : Addr) (cl : List (Str × Addr)) (fp : List Addr), PE (X.blk s H scope (compEnvC scope cl C X.env) fp) elt (Em X.K W0 me)) (hin : ∀ i ∈ g.ix, i ∈ own.map (·.2)) (hs : ∀ x, foldedSetIterable iter X.env x = pure x := by intro _; rfl) :
    PE X (.ListComp elt [⟨tg, iter, ifs, 0⟩] scope pos) (Em X.K W (mComp mi g (own.map (·.2)) t me)) := PE_imp (pe_lc hc hN hi ok hg ht he hs) fun σ H Q h => Em_comp hin h
theorem s_setComp {i : Nat} {y : Str} {py spos : Pos} (hc : X.calm = true) (hN : X.N.Nodup) (hy : X.N[i]? = some y) (hyl : X.env.scope.names.lookup y = some .local)
    (hsw : swapsWith (.ListComp elt [⟨tg, iter, ifs, 0⟩] scope pos) (some (.Name y py)) spos.line X.env = pure true) (hi : PI X tg iter (Im X.K W mi)) (ok : BlkOk X.N X.env.scope scope own)
    (hg : ∀ (s : Shared) (H : Hp) (C : Addr) (cl : List (Str × Addr)) (fp : List Addr), PG (X.blk s H scope (compEnvC scope cl C X.env) fp) tg (tgOf X.K g)) (ht : ∀ (s : Shared) (H : Hp) (C : Addr) (cl : List (Str × Addr)) (fp : List Addr), PTs (X.blk s H scope (compEnvC scope cl C X.env) fp) ifs (Tm X.K W0 t))
    (he : ∀ (s : Shared) (H : Hp) (C : Addr) (cl : List (Str × Addr)) (fp : List Addr), PE (X.blk s H scope (compEnvC scope cl C X.env) fp) elt (Em X.K W0 me)) (hin : ∀ i ∈ g.ix, i ∈ own.map (·.2)) (hs : ∀ x, foldedSetIterable iter X.env x = pure x := by intro _; rfl) :
    PS X (.Assign [.Name y py] (.ListComp elt [⟨tg, iter, ifs, 0⟩] scope pos) spos) (Sm X.K W (sAsg i (mComp mi g (own.map (·.2)) t me))) := PS_imp (ps_setLc hc hN hy hyl hsw hi ok hg ht he hs) fun D σ H ⟨ρ, τ, S, s, r, p⟩ =>
  Em_comp hin (Em_S (k := fun _ _ => .bad) s r p fun ρ1 H1 S1 v d s1 r1 e1 v1 p1 => p1.here s1 (r1.set i v1))
/-- no test -/
def tYesM : MT := fun _ S => .ok true S
theorem ts_nil : PTs X [] (Tm X.K W tYesM) := ⟨fun pins s σ H Q I ⟨ρ, τ, S, sr, r, p⟩ => pts_nil.run pins s σ H Q I (p.here sr rfl)⟩
theorem ts_one {c : Expr} (h : PT X c (Tm X.K W t)) : PTs X [c] (Tm X.K W t) := pts_one h
end

/-! ### lists, tuples, texts walked -/
def keepOf : D → Sto → List (Nat × C)
  | .loc l, S => match S[l]? with | some c => [(l, c)] | none => []
  | _, _ => []
def signs (x : Str) : List D := x.cps.toList.map fun c => .str ⟨#[c]⟩
def itemsOf : D → Sto → Option Items
  | .tup ds, _ => some ⟨ds, []⟩
  | .lst ds, _ => some ⟨ds, []⟩
  | .scr ds, _ => some ⟨ds, []⟩
  | .str x, _ => some ⟨signs x, []⟩
  | .loc l, S => match S[l]? with | some (.lst ds) => some ⟨ds, [(l, .lst ds)]⟩ | _ => none
  | _, _ => none
def iSeq (m : ME) : MI := fun τ S => (m τ S).bind fun d S1 => ofO (itemsOf d S1) S1
section
variable {K : PySem.W.Frag} {ρ0 : Pl} {H0 : Hp}
theorem iter_list {a : Addr} {d : D} {it : Items} (r : VR K ρ0 H0 (.ref a) d) (hd : ∀ S, keepOk it.keep S → listR d S = some it.ds) : IterOK K ρ0 H0 (Itl K a) it := fun ρ H S e s k => by
  obtain ⟨b, xs, e1, h1, h2⟩ := listR_of s (r.mono e) (hd S k)
  cases e1
  have hl := h2.length
  refine ⟨fun i hi => ⟨xs, xs[i]'(by omega), h1, by simp⟩, ⟨xs, h1, by omega⟩, fun i x H' hi y => ?_⟩
  obtain ⟨rfl, y2⟩ := y
  obtain ⟨d2, g1, g2⟩ := h2.getV (y2 xs h1)
  exact ⟨d2, g1, Ext.refl, s, g2⟩
theorem iter_tup {a : Addr} {ds : List D} (r : VR K ρ0 H0 (.ref a) (.tup ds)) : IterOK K ρ0 H0 (Itt K a) ⟨ds, []⟩ := fun ρ H S e s k => by
  obtain ⟨b, xs, e1, h1, h2⟩ := tup_of (r.mono e)
  cases e1
  have hl := h2.length
  refine ⟨fun i hi => ⟨xs, xs[i]'(by have : i < ds.length := hi; omega), h1, by simp⟩, ⟨xs, h1, by show xs.length ≤ ds.length; omega⟩, fun i x H' hi y => ?_⟩
  obtain ⟨rfl, y2⟩ := y
  obtain ⟨d2, g1, g2⟩ := h2.getV (y2 xs h1)
  exact ⟨d2, g1, Ext.refl, s, g2⟩
theorem iter_str {x : Str} : IterOK K ρ0 H0 (Its x) ⟨signs x, []⟩ := fun ρ H S e s k => by
  have hn : (signs x).length = x.cps.size := by simp [signs]
  refine ⟨fun i hi => walk_str.goes i H (by rw [← hn]; exact hi) trivial, ?_, fun i v H' hi y => ?_⟩
  · show (Its x).stop (signs x).length H
    rw [hn]; exact walk_str.stops H trivial
  · obtain ⟨rfl, c, hc, rfl⟩ := walk_str.yields i H v H' (by rw [← hn]; exact hi) trivial y
    refine ⟨.str ⟨#[c]⟩, ?_, Ext.refl, s, .str _⟩
    show (signs x)[i]? = _
    unfold signs
    rw [List.getElem?_map, Array.getElem?_toList, hc]; rfl
theorem iter_range {lo : Int} {n : Nat} : IterOK K ρ0 H0 (Itr lo n) ⟨(List.range n).map fun (i : Nat) => .int (lo + (i : Int)), []⟩ := fun ρ H S e s k => by
  refine ⟨fun i hi => by show i < n; simpa using hi, by show n ≤ _; simp, fun i x H' hi y => ?_⟩
  obtain ⟨rfl, rfl⟩ := y
  have hi' : i < n := by simpa using hi
  exact ⟨.int (lo + i), by simp [hi'], Ext.refl, s, .int _⟩
/-- new pairs of what two rows give -/
theorem pair_turn {ρ : Pl} {H H' : Hp} {S : Sto} {v : V} {xs ys : List V} {ds es : List D} {i : Nat} (s : SR K ρ S H) (hx : VRs K ρ H xs ds) (hy : VRs K ρ H ys es)
    (y : ∃ T x y, v = .ref T ∧ H T = none ∧ H' = upd H T (.tup [x, y]) ∧ xs[i]? = some x ∧ ys[i]? = some y) : ∃ d, (List.zipWith (fun a b => D.tup [a, b]) ds es)[i]? = some d ∧ Ext ρ H ρ H' ∧ SR K ρ S H' ∧ VR K ρ H' v d := by
  obtain ⟨T, x, y, rfl, hT, rfl, h1, h2⟩ := y
  obtain ⟨dx, g1, g2⟩ := hx.getV h1
  obtain ⟨dy, k1, k2⟩ := hy.getV h2
  refine ⟨.tup [dx, dy], ?_, Ext.fresh hT, s.laid hT, VR.newTup s hT (.cons g2 (.cons k2 .nil))⟩
  rw [List.getElem?_zipWith, g1, k1]
end
section
variable {X : Cx} {W : WX} {tg e : Expr} {m : ME} {pos : Pos}
theorem Im_of {K : PySem.W.Frag} {σ : St} {H : Hp} {Rr : It → Hp → Prop} (h : Im K W (iSeq m) σ H Rr) : iList K (Em K W m) σ H Rr ∨ iTup K (Em K W m) σ H Rr ∨ iStr (Em K W m) σ H Rr := by
  obtain ⟨ρ, τ, S, s, r, p⟩ := h
  unfold iSeq at p
  cases q : m τ S with
  | bad => rw [q] at p; exact p.elim
  | ex c fs S' =>
    rw [q] at p
    exact .inl ⟨ρ, τ, S, s, r, by rw [q]; exact p⟩
  | ok d S1 =>
    rw [q] at p
    simp only [R.bind_ok] at p
    cases q2 : itemsOf d S1 with
    | none => rw [q2] at p; exact p.elim
    | some it =>
      rw [q2] at p
      simp only [ofO_some] at p
      cases d with
      | tup ds =>
        cases q2
        refine .inr (.inl ⟨ρ, τ, S, s, r, ?_⟩)
        rw [q]
        intro ρ1 H1 v e1 s1 v1
        obtain ⟨a, xs, rfl, h1, h2⟩ := tup_of v1
        exact ⟨a, rfl, ⟨xs, h1⟩, p ρ1 H1 _ e1 s1 (fun _ h => nomatch h) (iter_tup v1)⟩
      | str x =>
        cases q2
        refine .inr (.inr ⟨ρ, τ, S, s, r, ?_⟩)
        rw [q]
        intro ρ1 H1 v e1 s1 v1
        cases v1
        exact ⟨x, rfl, p ρ1 H1 _ e1 s1 (fun _ h => nomatch h) iter_str⟩
      | lst ds =>
        cases q2
        refine .inl ⟨ρ, τ, S, s, r, ?_⟩
        rw [q]
        intro ρ1 H1 v e1 s1 v1
        obtain ⟨a, xs, rfl, h1, h2⟩ := listR_of s1 v1 rfl
        exact ⟨a, rfl, ⟨xs, h1⟩, p ρ1 H1 _ e1 s1 (fun _ h => nomatch h) (iter_list v1 fun _ _ => rfl)⟩
      | scr ds =>
        cases q2
        refine .inl ⟨ρ, τ, S, s, r, ?_⟩
        rw [q]
        intro ρ1 H1 v e1 s1 v1
        obtain ⟨a, xs, rfl, h1, h2⟩ := listR_of s1 v1 rfl
        exact ⟨a, rfl, ⟨xs, h1⟩, p ρ1 H1 _ e1 s1 (fun _ h => nomatch h) (iter_list v1 fun _ _ => rfl)⟩
      | loc l =>
        simp only [itemsOf] at q2
        split at q2
        · rename_i ds hl
          cases q2
          refine .inl ⟨ρ, τ, S, s, r, ?_⟩
          rw [q]
          intro ρ1 H1 v e1 s1 v1
          obtain ⟨a, xs, rfl, h1, h2⟩ := listR_of (ds := ds) s1 v1 (by simp [listR, hl])
          refine ⟨a, rfl, ⟨xs, h1⟩, p ρ1 H1 _ e1 s1 (fun q hq => ?_) (iter_list v1 fun S k => ?_)⟩
          · have : q = (l, .lst ds) := by simpa using hq
            subst this; exact hl
          · have := k (l, .lst ds) (by simp)
            simp [listR, this]
        · cases q2
      | _ => cases q2
theorem i_seq (he : PE X e (Em X.K W m)) : PI X tg e (Im X.K W (iSeq m)) := by
  constructor
  intro pins st σ H Rr I h
  rcases Im_of h with h | h | h
  · exact (pi_list he).run pins st σ H Rr I h
  · exact (pi_tup he).run pins st σ H Rr I h
  · exact (pi_str he).run pins st σ H Rr I h
/-! ### ranges -/
def range1 : List D → Sto → Option Items
  | [.int j], _ => if -(2 ^ 62) ≤ j ∧ j < 2 ^ 62 then some ⟨(List.range j.toNat).map fun (i : Nat) => .int (0 + (i : Int)), []⟩ else none
  | _, _ => none
def iArgs (f : List D → Sto → Option Items) (ms : MA) : MI := fun τ S => (ms τ S).bind fun ds S1 => ofO (f ds S1) S1
theorem Im_args {K : PySem.W.Frag} {f : List D → Sto → Option Items} {ms : MA} {σ : St} {H : Hp} {Rr : It → Hp → Prop} {Q1 : List V → Hp → Prop} (h : Im K W (iArgs f ms) σ H Rr)
    (k : ∀ ρ1 H1 S1 vs ds it, SR K ρ1 S1 H1 → VRs K ρ1 H1 vs ds → f ds S1 = some it → (∀ J, keepOk it.keep S1 → IterOK K ρ1 H1 J it → Rr J H1) → Q1 vs H1) : Am K W ms σ H Q1 := by
  obtain ⟨ρ, τ, S, s, r, p⟩ := h
  refine ⟨ρ, τ, S, s, r, ?_⟩
  unfold iArgs at p
  cases q : ms τ S with
  | bad => rw [q] at p; exact p.elim
  | ex c fs S' => rw [q] at p; exact p
  | ok ds S1 =>
    rw [q] at p
    simp only [R.bind_ok] at p
    cases q2 : f ds S1 with
    | none => rw [q2] at p; exact p.elim
    | some it =>
      rw [q2] at p
      exact fun ρ1 H1 vs e1 s1 v1 => k ρ1 H1 S1 vs ds it s1 v1 q2 fun J kk ok => p ρ1 H1 J e1 s1 kk ok
variable {ms : MA} {a b : Expr} {p : Pos}
theorem i_range1 (hm : X.mg "range" = none) (ha : PA X [a] (Am X.K W ms)) (hg : Gl X "range" := by rfl) (hs : starEach [a] X.env = [(false, eval a X.env)] := by rfl) : PI X tg (.Call (.Name "range" p) [a] [] pos) (Im X.K W (iArgs range1 ms)) :=
  PI_imp (pi_range1 hg hm ha hs) fun σ H Q h => Im_args h fun ρ1 H1 S1 vs ds it s1 v1 q k => by
    unfold range1 at q
    split at q
    · cases v1 with
      | cons v1 v2 =>
        cases v2; cases v1
        split at q
        · rename_i hb
          cases q
          exact ⟨_, rfl, hb.1, hb.2, k _ (fun _ h => nomatch h) iter_range⟩
        · cases q
    · cases q
/-! ### zip, enumerate -/
theorem listR_keep {d : D} {S S' : Sto} {ds : List D} (h : listR d S = some ds) (k : keepOk (keepOf d S) S') : listR d S' = some ds := by
  cases d with
  | loc l =>
    simp only [listR] at h
    split at h
    · rename_i es hl
      cases h
      have := k (l, .lst ds) (by simp [keepOf, hl])
      simp [listR, this]
    · cases h
  | _ => exact h
theorem keepOf_ok {d : D} {S : Sto} : keepOk (keepOf d S) S := fun p hp => by
  cases d with
  | loc l =>
    simp only [keepOf] at hp
    split at hp
    · rename_i c hl
      have : p = (l, c) := by simpa using hp
      subst this; exact hl
    · exact nomatch hp
  | _ => exact nomatch hp
theorem keepOk_app {a b : List (Nat × C)} {S : Sto} : keepOk (a ++ b) S ↔ keepOk a S ∧ keepOk b S := by
  constructor
  · intro h; exact ⟨fun p hp => h p (List.mem_append_left _ hp), fun p hp => h p (List.mem_append_right _ hp)⟩
  · rintro ⟨h1, h2⟩ p hp
    rcases List.mem_append.mp hp with z | z
    · exact h1 p z
    · exact h2 p z
theorem iter_zipL {K : PySem.W.Frag} {ρ0 : Pl} {H0 : Hp} {a b : Addr} {dx dy : D} {ds es : List D} {S0 : Sto} (ra : VR K ρ0 H0 (.ref a) dx) (rb : VR K ρ0 H0 (.ref b) dy) (hx : listR dx S0 = some ds) (hy : listR dy S0 = some es) :
    IterOK K ρ0 H0 (Itz K a b) ⟨List.zipWith (fun a b => .tup [a, b]) ds es, keepOf dx S0 ++ keepOf dy S0⟩ := fun ρ H S e s k => by
  obtain ⟨ka, kb⟩ := keepOk_app.mp k
  obtain ⟨_, xs, e1, h1, h2⟩ := listR_of s (ra.mono e) (listR_keep hx ka)
  cases e1
  obtain ⟨_, ys, e1, k1, k2⟩ := listR_of s (rb.mono e) (listR_keep hy kb)
  cases e1
  have hl := h2.length
  have hl2 := k2.length
  refine ⟨fun i hi => ?_, ⟨xs, ys, h1, k1, by show xs.length ≤ (List.zipWith _ _ _).length ∨ _; rw [List.length_zipWith]; omega⟩, fun i x H' hi y => ?_⟩
  · have hi' : i < (List.zipWith (fun a b => D.tup [a, b]) ds es).length := hi
    rw [List.length_zipWith] at hi'
    exact ⟨xs, ys, xs[i]'(by omega), ys[i]'(by omega), h1, k1, by simp, by simp⟩
  · obtain ⟨T, x, y, e1, e2, e3, e4, e5⟩ := y
    exact pair_turn s h2 k2 ⟨T, x, y, e1, e2, e3, e4 xs h1, e5 ys k1⟩
end
end Z

/-! Z5: what a thing reads as (PyData); operators and built-ins over data. -/
namespace Z
open PySem L2

def keyPy : Key → PyData
  | .inl i => .int i
  | .inr x => .str x
mutual
def toPyD : D → Option PyData
  | .non => some .none
  | .bl b => some (.bool b)
  | .int i => some (.int i)
  | .str x => some (.str x)
  | .tup ds => (toPyDs ds).map .tuple
  | .lst ds => (toPyDs ds).map .list
  | .scr ds => (toPyDs ds).map .list
  | .dct ks ds => (toPyDs ds).map fun vs => .dict (List.zip (ks.map keyPy) vs)
  | .loc _ => none
  | .ktup _ => none
  | .ob _ => none
  | .fn _ => none
def toPyDs : List D → Option (List PyData)
  | [] => some []
  | d :: ds => match toPyD d, toPyDs ds with
    | some p, some ps => some (p :: ps)
    | _, _ => none
end
def toPy (d : D) (S : Sto) : Option PyData := match d with
  | .loc l => match S[l]? with
    | some (.lst ds) => (toPyDs ds).map .list
    | some (.dK false kvs) => (toPyDs (kvs.map (·.2))).map fun vs => .dict (List.zip (kvs.map fun p => keyPy p.1) vs)
    | _ => none
  | d => toPyD d
theorem toPyDs_len : ∀ {ds : List D} {ps : List PyData}, toPyDs ds = some ps → ps.length = ds.length
  | [], ps, h => by simp [toPyDs] at h; subst h; rfl
  | d :: ds, ps, h => by
    simp only [toPyDs] at h
    split at h
    · rename_i p qs h1 h2
      cases h
      simp [toPyDs_len h2]
    · cases h
section
variable {X : Cx} {pins : List (Addr × Obj)} {σ : St} {st : Shared} {ρ : Pl} {H : Hp} {S : Sto}
theorem reads_dict (I : Inv X pins σ H st) {a : Addr} {ws : List (Key × V)} (h : H a = some (.dK ws)) {ps : List PyData} (hl : ps.length = ws.length) {B : Prop} (hv : ∀ us, Vals (ws.map (·.2)) us → ∃ as, ReadsAll st.heap us ps as ∧ (B → sysModules ∉ as)) :
    ∃ as, Reads st.heap (.ref a) (.dict (List.zip (ws.map fun p => keyPy p.1) ps)) as ∧ (B → sysModules ∉ as) := by
  obtain ⟨_, hsys, vs, hkv, o, es, ep, ho, hex, hd, _, hp, _⟩ := I.hok a _ h
  have main : ∀ (es : List DictEntry) (ws : List (Key × V)) (vs : List (Key × Value)), KV ws vs → PySem.Pairs (mixKind X.prog X.w) es vs → ReadsAll st.heap (es.map (·.key)) (ws.map fun p => keyPy p.1) [] ∧ Vals (ws.map (·.2)) (es.map (·.val)) := by
    intro es
    induction es with
    | nil =>
      intro ws vs hk hp
      cases hp; cases hk
      exact ⟨.nil, .nil⟩
    | cons e es ih =>
      intro ws vs hk hp
      cases hp with
      | cons h1 h2 h3 =>
        cases hk with
        | cons k1 k2 =>
          obtain ⟨r, q⟩ := ih _ _ k2 h3
          obtain ⟨e1, e2⟩ := k1
          refine ⟨?_, .cons (by show RelV _ e.val; rw [h2]; exact e2) q⟩
          rename_i kv vs' pw ws'
          obtain ⟨k, v⟩ := pw
          simp only at e1
          have hk1 : keyIs kv.1 e.key = true := h1
          rw [← e1] at hk1
          rcases keyIs_shape hk1 with ⟨i, t, e3, e4⟩ | ⟨x, t, e3, e4⟩
          · refine ReadsAll.cons (as := []) (bs := []) ?_ r
            simp only [e4]; rw [show keyPy k = .int i from by rw [e3]; rfl]; exact .int i t
          · refine ReadsAll.cons (as := []) (bs := []) ?_ r
            simp only [e4]; rw [show keyPy k = .str x from by rw [e3]; rfl]; exact .str x t
  obtain ⟨r1, r2⟩ := main es.toList ws vs hkv hp
  obtain ⟨bs, r3, hb⟩ := hv _ r2
  refine ⟨_, Reads.dict (as := []) (bs := bs) ho hex.1 hd ?_ ?_, fun b z => ?_⟩
  · rw [show (List.zip (ws.map fun p => keyPy p.1) ps).map (·.1) = ws.map fun p => keyPy p.1 from by
      rw [List.map_fst_zip]; simp [hl]]
    exact r1
  · rw [show (List.zip (ws.map fun p => keyPy p.1) ps).map (·.2) = ps from by
      rw [List.map_snd_zip]; simp [hl]]
    exact r3
  · rcases List.mem_cons.mp (show sysModules ∈ a :: bs from by simpa using z) with z | z
    · exact absurd (beq_iff_eq.mpr z.symm) (by rw [hsys]; decide)
    · exact hb b z
mutual
/-- no list within -/
def noList : D → Bool
  | .tup ds => noLists ds
  | .dct _ ds => noLists ds
  | .lst _ => false
  | .scr _ => false
  | .loc _ => false
  | _ => true
def noLists : List D → Bool
  | [] => true
  | d :: ds => noList d && noLists ds
end
mutual
theorem VR.reads (I : Inv X pins σ H st) : ∀ (d : D) (v : V) (u : Value) (p : PyData), VR X.K ρ H v d → RelV v u → toPyD d = some p → ∃ as, Reads st.heap u p as ∧ (noList d = true → sysModules ∉ as)
  | .non, _, _, _, r, q, h => by cases r; cases h; cases q; exact ⟨_, .none, fun _ z => nomatch z⟩
  | .bl b, _, _, _, r, q, h => by cases r; cases h; cases q; exact ⟨_, .bool b, fun _ z => nomatch z⟩
  | .int i, _, _, _, r, q, h => by cases r; cases h; obtain ⟨t, rfl⟩ := q; exact ⟨_, .int i t, fun _ z => nomatch z⟩
  | .str x, _, _, _, r, q, h => by cases r; cases h; obtain ⟨t, rfl⟩ := q; exact ⟨_, .str x t, fun _ z => nomatch z⟩
  | .tup ds, v, u, p, r, q, h => by
    simp only [toPyD, Option.map_eq_some_iff] at h
    obtain ⟨ps, h1, rfl⟩ := h
    obtain ⟨a, xs, rfl, ht, hs⟩ := tup_of r
    cases q
    obtain ⟨its, rv, ⟨o, ho, hc, n, hd⟩, _⟩ := I.tuple ht
    obtain ⟨as, hr, hb⟩ := VRs.reads I ds _ its ps hs rv h1
    exact ⟨_, .tuple ho hc hd hr, hb⟩
  | .lst ds, v, u, p, r, q, h => by
    simp only [toPyD, Option.map_eq_some_iff] at h
    obtain ⟨ps, h1, rfl⟩ := h
    cases r with
    | lst h2 h3 hs =>
      cases q
      obtain ⟨its, rv, ⟨o, n, ho, hc, _, hd⟩, _⟩ := I.list (SqL.of h2)
      obtain ⟨as, hr, hb⟩ := VRs.reads I ds _ its ps hs rv h1
      exact ⟨_, .list ho hc hd hr, fun z => nomatch z⟩
  | .scr ds, v, u, p, r, q, h => by
    simp only [toPyD, Option.map_eq_some_iff] at h
    obtain ⟨ps, h1, rfl⟩ := h
    cases r with
    | @scr a xs _ h2 hs =>
      cases q
      have hq : SqL X.K H a xs := by
        rcases h2 with ⟨o, h2, _⟩ | h2
        · exact .inl (.inr ⟨o, h2⟩)
        · exact h2 H
      obtain ⟨its, rv, ⟨o, n, ho, hc, _, hd⟩, _⟩ := I.list hq
      obtain ⟨as, hr, hb⟩ := VRs.reads I ds _ its ps hs rv h1
      exact ⟨_, .list ho hc hd hr, fun z => nomatch z⟩
  | .dct ks ds, v, u, p, r, q, h => by
    simp only [toPyD, Option.map_eq_some_iff] at h
    obtain ⟨ps, h1, rfl⟩ := h
    cases r with
    | dct h2 h3 hk hs =>
      cases q
      have := reads_dict I h2 (ps := ps) (B := noLists ds = true) (by rw [toPyDs_len h1, ← hs.length]; simp) fun us hu => VRs.reads I ds _ us ps hs hu h1
      rw [← hk]
      rw [List.map_map]
      exact this
  | .loc l, _, _, _, _, _, h => by simp [toPyD] at h
  | .ktup l, _, _, _, _, _, h => by simp [toPyD] at h
  | .ob v, _, _, _, _, _, h => by simp [toPyD] at h
  | .fn v, _, _, _, _, _, h => by simp [toPyD] at h
theorem VRs.reads (I : Inv X pins σ H st) : ∀ (ds : List D) (vs : List V) (us : List Value) (ps : List PyData), VRs X.K ρ H vs ds → Vals vs us → toPyDs ds = some ps → ∃ as, ReadsAll st.heap us ps as ∧ (noLists ds = true → sysModules ∉ as)
  | [], _, _, _, r, q, h => by cases r; cases q; simp [toPyDs] at h; subst h; exact ⟨_, .nil, fun _ z => nomatch z⟩
  | d :: ds, _, _, _, r, q, h => by
    simp only [toPyDs] at h
    split at h
    · rename_i p ps h1 h2
      cases h
      cases r with
      | cons r1 r2 =>
        cases q with
        | cons q1 q2 =>
          obtain ⟨as, k1, b1⟩ := VR.reads I d _ _ _ r1 q1 h1
          obtain ⟨bs, k2, b2⟩ := VRs.reads I ds _ _ _ r2 q2 h2
          refine ⟨_, .cons k1 k2, fun z => ?_⟩
          have z' : noList d = true ∧ noLists ds = true := by simpa [noLists] using z
          rw [List.mem_append]
          rintro (y | y)
          · exact b1 z'.1 y
          · exact b2 z'.2 y
    · cases h
end
/-- what is to be read as p, whatever state bears the heap -/
def RdP (X : Cx) (H : Hp) (v : V) (p : PyData) : Prop := ∀ (pins : List (Addr × Obj)) (σ : St) (st : Shared) (u : Value), Inv X pins σ H st → RelV v u → ∃ as, Reads st.heap u p as
theorem rdP_of (s : SR X.K ρ S H) {v : V} {d : D} {p : PyData} (r : VR X.K ρ H v d) (h : toPy d S = some p) : RdP X H v p := fun pins σ st u I q => by
  cases d with
  | loc l =>
    cases r with
    | loc hl =>
      cases q
      simp only [toPy] at h
      split at h
      · rename_i ds e
        simp only [Option.map_eq_some_iff] at h
        obtain ⟨ps, h1, rfl⟩ := h
        obtain ⟨xs, h2, h3⟩ := s.at hl e
        obtain ⟨its, rv, ⟨o, n, ho, hc, _, hd⟩, _⟩ := I.list (SqL.of h2)
        obtain ⟨as, hr, _⟩ := VRs.reads I ds _ its ps h3 rv h1
        exact ⟨_, .list ho hc hd hr⟩
      · rename_i kvs e
        simp only [Option.map_eq_some_iff] at h
        obtain ⟨ps, h1, rfl⟩ := h
        obtain ⟨ws, h2, h3⟩ := s.at hl e
        have hk : ws.map (·.1) = kvs.map (·.1) ∧ VRs X.K ρ H (ws.map (·.2)) (kvs.map (·.2)) := by
          clear h1 h2 e
          induction h3 with
          | nil => exact ⟨rfl, .nil⟩
          | cons q _ ih => exact ⟨by simp [ih.1], .cons q ih.2⟩
        obtain ⟨as, this, _⟩ := reads_dict I h2 (ps := ps) (B := False) (by rw [toPyDs_len h1, ← hk.2.length]; simp) fun us hu => let ⟨as, r, _⟩ := VRs.reads I _ _ us ps hk.2 hu h1; ⟨as, r, fun z => z.elim⟩
        have e2 : (ws.map fun p => keyPy p.1) = kvs.map fun p => keyPy p.1 := by
          have := congrArg (List.map keyPy) hk.1
          simpa [List.map_map, Function.comp_def] using this
        rw [e2] at this
        exact ⟨_, this⟩
      · cases h
  | _ => exact let ⟨as, r, _⟩ := VR.reads I _ _ _ _ r q h; ⟨as, r⟩
end

/-- .. without sys.modules among its objects -/
def RdS (X : Cx) (H : Hp) (v : V) (p : PyData) : Prop := ∀ (pins : List (Addr × Obj)) (σ : St) (st : Shared) (u : Value), Inv X pins σ H st → RelV v u → ∃ as, Reads st.heap u p as ∧ sysModules ∉ as
theorem rdS_of {X : Cx} {ρ : Pl} {H : Hp} {v : V} {d : D} {p : PyData} (r : VR X.K ρ H v d) (h : toPyD d = some p) (hn : noList d = true) : RdS X H v p := fun pins σ st u I q =>
  let ⟨as, h1, h2⟩ := VR.reads I _ _ _ _ r q h
  ⟨as, h1, h2 hn⟩

/-! ### operators over data -/
def rDat (X : Cx) (C : PyData → PyData → Prop) (f : PyData → PyData → Bool) : R2 := fun x y H Q => ∃ p q, RdP X H x p ∧ RdP X H y q ∧ C p q ∧ Q (.bl (f p q)) H
def PlainC (p q : PyData) : Prop := p.plain = true ∧ q.plain = true ∧ p.depth ≤ 64
def AlikeC (p q : PyData) : Prop := PySem.W.alike p q = true ∧ p ≠ .none ∧ p.depth ≤ 64
def InC (p q : PyData) : Prop := p.plain = true ∧ p.depth ≤ 64 ∧ ((∃ xs, q = .list xs ∧ PyData.plainAll xs = true) ∨ ∃ xs, q = .tuple xs ∧ PyData.plainAll xs = true)
def inPy (p q : PyData) : Bool := match q with
  | .list xs => xs.any fun y => PyData.eqv y p
  | .tuple xs => xs.any fun y => PyData.eqv y p
  | _ => false
section
variable {X : Cx} (hu : X.A.units + 100 < cLine)
include hu
theorem op_eqP : OpR X (compareOp .Eq) (rDat X PlainC PyData.eqv) := fun pins st σ H x y v u Q I rx ry ⟨p, q, hp, hq, ⟨c1, c2, c3⟩, h⟩ => by
  obtain ⟨as, r1⟩ := hp pins σ st v I rx
  obtain ⟨bs, r2⟩ := hq pins σ st u I ry
  exact SeqAt.eq_plain r1 r2 c1 c2 (by omega) ⟨.bl _, H, I, rfl, h⟩
theorem op_neP : OpR X (compareOp .NotEq) (rDat X PlainC fun p q => !PyData.eqv p q) := fun pins st σ H x y v u Q I rx ry ⟨p, q, hp, hq, ⟨c1, c2, c3⟩, h⟩ => by
  obtain ⟨as, r1⟩ := hp pins σ st v I rx
  obtain ⟨bs, r2⟩ := hq pins σ st u I ry
  exact SeqAt.ne_plain r1 r2 c1 c2 (by omega) ⟨.bl _, H, I, rfl, h⟩
theorem op_ltP : OpR X (compareOp .Lt) (rDat X AlikeC fun p q => PySem.W.dataLt p q) := fun pins st σ H x y v u Q I rx ry ⟨p, q, hp, hq, ⟨c1, c2, c3⟩, h⟩ => by
  obtain ⟨as, r1⟩ := hp pins σ st v I rx
  obtain ⟨bs, r2⟩ := hq pins σ st u I ry
  exact PySem.W.lt_data r1 r2 c1 c2 (by omega) ⟨.bl _, H, I, rfl, h⟩
theorem op_gtP : OpR X (compareOp .Gt) (rDat X AlikeC fun p q => PySem.W.dataLt q p) := fun pins st σ H x y v u Q I rx ry ⟨p, q, hp, hq, ⟨c1, c2, c3⟩, h⟩ => by
  obtain ⟨as, r1⟩ := hp pins σ st v I rx
  obtain ⟨bs, r2⟩ := hq pins σ st u I ry
  exact PySem.W.gt_data r1 r2 c1 c2 (by omega) ⟨.bl _, H, I, rfl, h⟩
theorem op_leP : OpR X (compareOp .LtE) (rDat X AlikeC fun p q => !PySem.W.dataLt q p) := fun pins st σ H x y v u Q I rx ry ⟨p, q, hp, hq, ⟨c1, c2, c3⟩, h⟩ => by
  obtain ⟨as, r1⟩ := hp pins σ st v I rx
  obtain ⟨bs, r2⟩ := hq pins σ st u I ry
  exact PySem.W.le_data r1 r2 c1 c2 (by omega) ⟨.bl _, H, I, rfl, h⟩
theorem op_geP : OpR X (compareOp .GtE) (rDat X AlikeC fun p q => !PySem.W.dataLt p q) := fun pins st σ H x y v u Q I rx ry ⟨p, q, hp, hq, ⟨c1, c2, c3⟩, h⟩ => by
  obtain ⟨as, r1⟩ := hp pins σ st v I rx
  obtain ⟨bs, r2⟩ := hq pins σ st u I ry
  exact PySem.W.ge_data r1 r2 c1 c2 (by omega) ⟨.bl _, H, I, rfl, h⟩
theorem op_inP : OpR X (compareOp .In) (rDat X InC inPy) := fun pins st σ H x y v u Q I rx ry ⟨p, q, hp, hq, ⟨c1, c2, c3⟩, h⟩ => by
  obtain ⟨as, r1⟩ := hp pins σ st v I rx
  obtain ⟨bs, r2⟩ := hq pins σ st u I ry
  rcases c3 with ⟨xs, rfl, hxs⟩ | ⟨xs, rfl, hxs⟩
  · exact SeqAt.in_list_data r2 r1 hxs c1 (by omega) ⟨.bl _, H, I, rfl, h⟩
  · exact SeqAt.in_tuple_data r2 r1 hxs c1 (by omega) ⟨.bl _, H, I, rfl, h⟩
theorem op_notInP : OpR X (compareOp .NotIn) (rDat X InC fun p q => !inPy p q) := fun pins st σ H x y v u Q I rx ry ⟨p, q, hp, hq, ⟨c1, c2, c3⟩, h⟩ => by
  obtain ⟨as, r1⟩ := hp pins σ st v I rx
  obtain ⟨bs, r2⟩ := hq pins σ st u I ry
  rcases c3 with ⟨xs, rfl, hxs⟩ | ⟨xs, rfl, hxs⟩
  · exact SeqAt.notIn_list_data r2 r1 hxs c1 (by omega) ⟨.bl _, H, I, rfl, h⟩
  · exact SeqAt.notIn_tuple_data r2 r1 hxs c1 (by omega) ⟨.bl _, H, I, rfl, h⟩
end
end Z

/-! Z6: operators and built-ins on things. -/
namespace Z
open PySem L2

/-! ### arithmetic -/
def dAdd : D → D → Sto → R D
  | .int i, .int j, S => .ok (.int (i + j)) S
  | .str x, .str y, S => guardR (x.length + y.length ≤ sizeLine) (.ok (.str (x ++ y)) S)
  | .tup xs, .tup ys, S => guardR (xs.length + ys.length ≤ sizeLine) (.ok (.tup (xs ++ ys)) S)
  | x, y, S => match listD x S, listD y S with
    | some xs, some ys => guardR (xs.length + ys.length ≤ sizeLine) (.ok (.lst (xs ++ ys)) S)
    | _, _ => .bad
def dSub : D → D → Sto → R D
  | .int i, .int j, S => .ok (.int (i - j)) S
  | _, _, _ => .bad
def dMul : D → D → Sto → R D
  | .int i, .int j, S => guardR ((-(2 ^ 64) < i ∧ i < 2 ^ 64) ∨ (-(2 ^ 64) < j ∧ j < 2 ^ 64)) (.ok (.int (i * j)) S)
  | .tup xs, .int k, S => guardR (xs.isEmpty = false ∧ 2 ≤ k ∧ k ≤ 1000 ∧ xs.length ≤ 1000) (.ok (.tup (List.replicate k.toNat xs).flatten) S)
  | _, _, _ => .bad
def dMod : D → D → Sto → R D
  | .int i, .int j, S => guardR (0 < j) (.ok (.int (i % j)) S)
  | _, _, _ => .bad
def dFdiv : D → D → Sto → R D
  | .int i, .int j, S => guardR (0 < j ∧ j < 1073741824) (.ok (.int (i / j)) S)
  | _, _, _ => .bad
def dPow : D → D → Sto → R D
  | .int i, .int j, S => guardR (0 ≤ j ∧ j ≤ 1000000 ∧ i.natAbs < 2 ^ 64) (.ok (.int (i ^ j.toNat)) S)
  | _, _, _ => .bad
theorem VRs.rep {K : PySem.W.Frag} {ρ : Pl} {H : Hp} {vs : List V} {ds : List D} (h : VRs K ρ H vs ds) : ∀ k : Nat, VRs K ρ H (List.replicate k vs).flatten (List.replicate k ds).flatten
  | 0 => .nil
  | k + 1 => by
    simp only [List.replicate_succ, List.flatten_cons]
    exact h.append (VRs.rep h k)
section
variable {K : PySem.W.Frag}
def rAddR (K : PySem.W.Frag) : R2 := fun x y H Q => rI0 (fun i j => .int (i + j)) x y H Q ∨ (∃ i j, x = .str i ∧ y = .str j ∧ i.length + j.length ≤ sizeLine ∧ Q (.str (i ++ j)) H) ∨ rCatA K x y H Q ∨ rCat x y H Q
theorem add_lists {Wk : XK} {ρ : Pl} {S : Sto} {H : Hp} {x y : V} {dx dy : D} {Q : VK} (s : SR K ρ S H) (rx : VR K ρ H x dx) (ry : VR K ρ H y dy)
    (h : Post K Wk ρ H (match listD dx S, listD dy S with
    | some xs, some ys => guardR (xs.length + ys.length ≤ sizeLine) (.ok (.lst (xs ++ ys)) S)
    | _, _ => .bad) (VR K) Q) : rCat x y H Q := by
  split at h
  · rename_i xs ys h1 h2
    obtain ⟨hz, h⟩ := guardR_post h
    obtain ⟨a, vs, rfl, ha, hs⟩ := listD_of s rx h1
    obtain ⟨b, ws, rfl, hb, gs⟩ := listD_of s ry h2
    exact ⟨a, b, vs, ws, rfl, rfl, ha, hb, by rw [hs.length, gs.length]; exact hz, h.newLst s (hs.append gs)⟩
  · exact h.elim
theorem dAdd_ok : OpS K dAdd (rAddR K) := fun Wk ρ S H x y dx dy Q s rx ry h => by
  unfold dAdd at h
  split at h
  · cases rx; cases ry
    exact .inl ⟨_, _, rfl, rfl, h.here s (.int _)⟩
  · cases rx; cases ry
    obtain ⟨hz, h⟩ := guardR_post h
    exact .inr (.inl ⟨_, _, rfl, rfl, hz, h.here s (.str _)⟩)
  · obtain ⟨hz, h⟩ := guardR_post h
    obtain ⟨a, vs, rfl, ha, hs⟩ := tup_of rx
    obtain ⟨b, ws, rfl, hb, gs⟩ := tup_of ry
    refine .inr (.inr (.inl ⟨a, b, vs, ws, rfl, rfl, ha, hb, by rw [hs.length, gs.length]; exact hz, fun e => ?_, fun e1 e2 => ?_, fun _ _ => h.newTup s (hs.append gs)⟩))
    · subst e
      cases hs
      exact h.here s ry
    · subst e2
      cases gs
      exact h.here s (by simpa using rx)
  · exact .inr (.inr (.inr (add_lists s rx ry h)))
theorem dSub_ok : OpS K dSub (rI0 fun i j => .int (i - j)) := fun Wk ρ S H x y dx dy Q s rx ry h => by
  unfold dSub at h
  split at h
  · cases rx; cases ry
    exact ⟨_, _, rfl, rfl, h.here s (.int _)⟩
  · exact h.elim
def rMulR (K : PySem.W.Frag) : R2 := fun x y H Q => rI CMul (fun i j => .int (i * j)) x y H Q ∨ rRepT K x y H Q
theorem dMul_ok : OpS K dMul (rMulR K) := fun Wk ρ S H x y dx dy Q s rx ry h => by
  unfold dMul at h
  split at h
  · cases rx; cases ry
    obtain ⟨hc, h⟩ := guardR_post h
    exact .inl ⟨_, _, rfl, rfl, hc, h.here s (.int _)⟩
  · obtain ⟨⟨h1, h2, h3, h4⟩, h⟩ := guardR_post h
    cases ry
    obtain ⟨a, vs, rfl, ha, hs⟩ := tup_of rx
    refine .inr ⟨a, _, vs, rfl, rfl, ha, ?_, h2, h3, by rw [hs.length]; exact h4, h.newTup s (hs.rep _)⟩
    rintro rfl; cases hs; cases h1
  · exact h.elim
theorem dMod_ok : OpS K dMod (rI (fun _ j => 0 < j) fun i j => .int (i % j)) := fun Wk ρ S H x y dx dy Q s rx ry h => by
  unfold dMod at h
  split at h
  · cases rx; cases ry
    obtain ⟨hc, h⟩ := guardR_post h
    exact ⟨_, _, rfl, rfl, hc, h.here s (.int _)⟩
  · exact h.elim
theorem dFdiv_ok : OpS K dFdiv (rI CDiv fun i j => .int (i / j)) := fun Wk ρ S H x y dx dy Q s rx ry h => by
  unfold dFdiv at h
  split at h
  · cases rx; cases ry
    obtain ⟨hc, h⟩ := guardR_post h
    exact ⟨_, _, rfl, rfl, hc, h.here s (.int _)⟩
  · exact h.elim
theorem dPow_ok : OpS K dPow (rI CPow fun i j => .int (i ^ j.toNat)) := fun Wk ρ S H x y dx dy Q s rx ry h => by
  unfold dPow at h
  split at h
  · cases rx; cases ry
    obtain ⟨hc, h⟩ := guardR_post h
    exact ⟨_, _, rfl, rfl, hc, h.here s (.int _)⟩
  · exact h.elim
/-! ### comparisons -/
def dDat (c f : PyData → PyData → Bool) : D → D → Sto → R D := fun x y S => match toPy x S, toPy y S with
  | some p, some q => if c p q = true then .ok (.bl (f p q)) S else .bad
  | _, _ => .bad
def notNone : PyData → Bool
  | .none => false
  | _ => true
def plainB (p q : PyData) : Bool := p.plain && q.plain && decide (p.depth ≤ 64)
def alikeB (p q : PyData) : Bool := PySem.W.alike p q && notNone p && decide (p.depth ≤ 64)
def inB (p q : PyData) : Bool := p.plain && decide (p.depth ≤ 64) && match q with
  | .list xs => PyData.plainAll xs
  | .tuple xs => PyData.plainAll xs
  | _ => false
abbrev dEq := dDat plainB PyData.eqv
abbrev dNe := dDat plainB fun p q => !PyData.eqv p q
abbrev dLt := dDat alikeB fun p q => PySem.W.dataLt p q
abbrev dGt := dDat alikeB fun p q => PySem.W.dataLt q p
abbrev dLe := dDat alikeB fun p q => !PySem.W.dataLt q p
abbrev dGe := dDat alikeB fun p q => !PySem.W.dataLt p q
theorem dDat_ok {X : Cx} {C : PyData → PyData → Prop} {c f : PyData → PyData → Bool} (hc : ∀ p q, c p q = true → C p q) : OpS X.K (dDat c f) (rDat X C f) := fun Wk ρ S H x y dx dy Q s rx ry h => by
  unfold dDat at h
  split at h
  · rename_i p q h1 h2
    split at h
    · exact ⟨p, q, rdP_of s rx h1, rdP_of s ry h2, hc _ _ (by assumption), h.here s (.bl _)⟩
    · exact h.elim
  · exact h.elim
theorem plainB_C (p q : PyData) (h : plainB p q = true) : PlainC p q := by
  simp only [plainB, Bool.and_eq_true, decide_eq_true_eq] at h
  exact ⟨h.1.1, h.1.2, h.2⟩
theorem alikeB_C (p q : PyData) (h : alikeB p q = true) : AlikeC p q := by
  simp only [alikeB, Bool.and_eq_true, decide_eq_true_eq] at h
  exact ⟨h.1.1, by rintro rfl; simp [notNone] at h, h.2⟩
theorem inB_C (p q : PyData) (h : inB p q = true) : InC p q := by
  simp only [inB, Bool.and_eq_true, decide_eq_true_eq] at h
  refine ⟨h.1.1, h.1.2, ?_⟩
  cases q with
  | list xs => exact .inl ⟨xs, rfl, h.2⟩
  | tuple xs => exact .inr ⟨xs, rfl, h.2⟩
  | _ => exact absurd h.2 (by simp)
/-- is None, is not None -/
def isNon : D → Option Bool
  | .non => some true
  | .ob _ => none
  | .fn _ => none
  | _ => some false
def dIsN (neg : Bool) : D → D → Sto → R D := fun x y S => match y with
  | .non => ofO ((isNon x).map fun b => .bl (if neg then !b else b)) S
  | _ => .bad
theorem isNon_of {ρ : Pl} {H : Hp} {v : V} {d : D} {b : Bool} (r : VR K ρ H v d) (h : isNon d = some b) : decide (v = .non) = b := by
  cases r <;> simp only [isNon, Option.some.injEq] at h <;> first | (subst h; rfl) | (subst h; exact decide_eq_false (fun q => nomatch q)) | cases h
theorem dIs_ok : OpS K (dIsN false) (fun x y H Q => y = .non ∧ Q (.bl (decide (x = .non))) H) := fun Wk ρ S H x y dx dy Q s rx ry h => by
  unfold dIsN at h
  split at h
  · cases ry
    obtain ⟨z, e, p⟩ := ofO_post h
    simp only [Option.map_eq_some_iff] at e
    obtain ⟨b, e1, rfl⟩ := e
    refine ⟨rfl, ?_⟩
    rw [isNon_of rx e1]
    exact p.here s (.bl _)
  · exact h.elim
/-! ### items, slices -/
def seqR : D → Sto → Option (List D)
  | .tup ds, _ => some ds
  | .ktup ds, _ => some ds
  | d, S => listR d S
def dIx : D → D → Sto → R D
  | .str x, .int i, S => guardR (x.length ≤ sizeLine) (ofO ((atI x.cps.toList i).map fun c => .str ⟨#[c]⟩) S)
  | d, .int i, S => match seqR d S with
    | some ds => ofO (atI ds i) S
    | none => .bad
  | _, _, _ => .bad
theorem atI_of {ρ : Pl} {H : Hp} {vs : List V} {ds : List D} {i : Int} {d : D} (h : VRs K ρ H vs ds) (e : atI ds i = some d) : ∃ v, atI vs i = some v ∧ VR K ρ H v d := by
  unfold atI at e ⊢
  rw [h.length]
  cases q : ixN ds.length i with
  | none => rw [q] at e; cases e
  | some j => rw [q] at e; exact h.get e
theorem seqR_of {ρ : Pl} {H : Hp} {S : Sto} {v : V} {d : D} {ds : List D} (s : SR K ρ S H) (r : VR K ρ H v d) (h : seqR d S = some ds) : ∃ a xs, v = .ref a ∧ (SqL K H a xs ∨ SqT K H a xs) ∧ VRs K ρ H xs ds := by
  cases d with
  | tup es =>
    simp only [seqR, Option.some.injEq] at h
    subst h
    obtain ⟨a, xs, e, h1, h2⟩ := tup_of r
    exact ⟨a, xs, e, .inr h1, h2⟩
  | ktup es =>
    simp only [seqR, Option.some.injEq] at h
    subst h
    obtain ⟨a, xs, e, h1, h2⟩ := ktup_of r
    exact ⟨a, xs, e, .inr h1, h2⟩
  | _ =>
    obtain ⟨a, xs, e, h1, h2⟩ := listR_of s r h
    exact ⟨a, xs, e, .inl h1, h2⟩
theorem dIx_ok : OpS K dIx (rIx K) := fun Wk ρ S H x y dx dy Q s rx ry h => by
  unfold dIx at h
  split at h
  · cases rx; cases ry
    obtain ⟨hz, h⟩ := guardR_post h
    obtain ⟨z, e, p⟩ := ofO_post h
    simp only [Option.map_eq_some_iff] at e
    obtain ⟨c, e1, rfl⟩ := e
    exact .inr (.inr ⟨_, _, c, rfl, rfl, hz, e1, p.here s (.str _)⟩)
  · cases ry
    split at h
    · rename_i ds e
      obtain ⟨z, e1, p⟩ := ofO_post h
      obtain ⟨a, xs, rfl, h1, h2⟩ := seqR_of s rx e
      obtain ⟨v, k1, k2⟩ := atI_of h2 e1
      rcases h1 with h1 | h1
      · exact .inl ⟨a, xs, _, v, rfl, rfl, h1, k1, p.here s k2⟩
      · exact .inr (.inl ⟨a, xs, _, v, rfl, rfl, h1, k1, p.here s k2⟩)
    · exact h.elim
  · exact h.elim
def cutD (ds : List D) (lo hi : Option Int) : List D := (ds.drop (HT.sIx ds.length 0 lo)).take (HT.sIx ds.length ds.length hi - HT.sIx ds.length 0 lo)
theorem VRs.cut {ρ : Pl} {H : Hp} {vs : List V} {ds : List D} (h : VRs K ρ H vs ds) (lo hi : Option Int) : VRs K ρ H (cutV vs lo hi) (cutD ds lo hi) := by
  unfold cutV cutD
  rw [h.length]
  exact (h.drop _).take _
def dSl (d : D) (lo hi : Option Int) (S : Sto) : R D := match d with
  | .tup ds => .ok (.tup (cutD ds lo hi)) S
  | .str x => guardR (x.length ≤ sizeLine) (.ok (.str (cutS x lo hi)) S)
  | d => match listR d S with
    | some ds => .ok (.lst (cutD ds lo hi)) S
    | none => .bad
end

section
variable {X : Cx} {W : WX} {e a b : Expr} {m ma mb : ME} {pos p2 : Pos}
end
end Z

/-! Z7: slices, built-in calls, methods of lists, stores, while. -/
namespace Z
open PySem L2

/-! ### slices -/
def mPart : Option ME → Tau → Sto → R (Option Int)
  | none, _, S => .ok none S
  | some m, τ, S => (m τ S).bind fun d S1 => match d with
    | .int i => .ok (some i) S1
    | _ => .bad
abbrev relO : Pl → Hp → Option Int → Option Int → Prop := fun _ _ b b' => b = b'
def Om (K : PySem.W.Frag) (W : WX) (m : Option ME) : TO := fun σ H Q => ∃ ρ τ S, SR K ρ S H ∧ ER K ρ H τ σ ∧ Post K (fun c d H' => W c d σ H') ρ H (mPart m τ S) relO Q
def mSl (m : ME) (lo hi : Option ME) : ME := fun τ S => (m τ S).bind fun d S1 => (mPart lo τ S1).bind fun l S2 => (mPart hi τ S2).bind fun h S3 => dSl d l h S3
section
variable {X : Cx} {W : WX} {e a b : Expr} {m ma mb : ME} {pos p2 : Pos}
theorem PO_imp {X : Cx} {e : Option Expr} {t t' : TO} (h : PO X e t) (k : ∀ σ H Q, t' σ H Q → t σ H Q) : PO X e t' := ⟨fun pins s σ H Q I w => h.run pins s σ H Q I (k σ H Q w)⟩
theorem o_none : PO X none (Om X.K W none) := PO_imp po_none fun σ H Q ⟨ρ, τ, S, s, r, p⟩ => p.here s rfl
theorem o_some (he : PE X e (Em X.K W m)) : PO X (some e) (Om X.K W (some m)) := PO_imp (po_some he) fun σ H Q ⟨ρ, τ, S, s, r, p⟩ => by
  refine Em_bind s r p fun ρ1 H1 S1 v d s1 r1 e1 v1 p1 => ?_
  split at p1
  · cases v1
    exact ⟨_, rfl, p1.here s1 rfl⟩
  · exact p1.elim
def rSl (K : PySem.W.Frag) : V → Option Int → Option Int → Hp → VK → Prop := fun x lo hi H Q => rSlA K x lo hi H Q ∨ rSlL K x lo hi H Q ∨ rSlS x lo hi H Q
theorem dSl_ok {K : PySem.W.Frag} {Wk : XK} {ρ : Pl} {S : Sto} {H : Hp} {x : V} {d : D} {lo hi : Option Int} {Q : VK} (s : SR K ρ S H) (r : VR K ρ H x d) (h : Post K Wk ρ H (dSl d lo hi S) (VR K) Q) : rSl K x lo hi H Q := by
  unfold dSl at h
  split at h
  · rename_i ds
    obtain ⟨a, xs, rfl, h1, h2⟩ := tup_of r
    refine .inl ⟨a, xs, rfl, h1, fun w => ?_, fun _ => h.newTup s (h2.cut lo hi)⟩
    have e : cutD ds lo hi = ds := by
      unfold cutD
      rw [h2.length] at w
      rw [w.1, w.2]; simp
    rw [e] at h
    exact h.here s r
  · cases r
    obtain ⟨hz, h⟩ := guardR_post h
    exact .inr (.inr ⟨_, rfl, hz, h.here s (.str _)⟩)
  · split at h
    · rename_i ds e
      obtain ⟨a, xs, rfl, h1, h2⟩ := listR_of s r e
      exact .inr (.inl ⟨a, xs, rfl, h1, h.newLst s (h2.cut lo hi)⟩)
    · exact h.elim
theorem z_sl {lo hi : Option Expr} {ml mh : Option ME} (he : PE X e (Em X.K W m)) (hl : PO X lo (Om X.K W ml)) (hh : PO X hi (Om X.K W mh)) : PE X (.Subscript e (.Slice lo hi none p2) pos) (Em X.K W (mSl m ml mh)) :=
  PE_imp (pe_slice (r := rSl X.K) (sl_tupA.or (sl_list.or sl_str)) he hl hh) fun σ H Q ⟨ρ, τ, S, s, r, p⟩ => by
    refine Em_bind s r p fun ρ1 H1 S1 v d s1 r1 e1 v1 p1 => ?_
    refine ⟨ρ1, τ, S1, s1, r1, Post.bind p1 fun ρ2 H2 S2 l l' e2 s2 q2 p2 => ?_⟩
    have q2' : l = l' := q2
    subst q2'
    refine ⟨ρ2, τ, S2, s2, r1.mono e2, Post.bind p2 fun ρ3 H3 S3 u u' e3 s3 q3 p3 => ?_⟩
    have q3' : u = u' := q3
    subst q3'
    exact dSl_ok s3 ((v1.mono e2).mono e3) p3
end

/-! ### built-ins -/
def dLen : List D → Sto → R D
  | [.str x], S => guardR (x.length ≤ sizeLine) (.ok (.int x.length) S)
  | [d], S => match seqR d S with
    | some ds => .ok (.int ds.length) S
    | none => .bad
  | _, _ => .bad
section
variable {K : PySem.W.Frag}
theorem vrs1 {ρ : Pl} {H : Hp} {vs : List V} {d : D} (h : VRs K ρ H vs [d]) : ∃ v, vs = [v] ∧ VR K ρ H v d := by
  cases h with | cons h1 h2 => cases h2; exact ⟨_, rfl, h1⟩
theorem vrs2 {ρ : Pl} {H : Hp} {vs : List V} {d e : D} (h : VRs K ρ H vs [d, e]) : ∃ v w, vs = [v, w] ∧ VR K ρ H v d ∧ VR K ρ H w e := by
  cases h with | cons h1 h2 => cases h2 with | cons h2 h3 => cases h3; exact ⟨_, _, rfl, h1, h2⟩
theorem dLen_ok : CallS K dLen (fun xs H Q => ∃ x n, xs = [x] ∧ LenV K x H n ∧ Q (.int n) H) := fun Wk ρ S H vs ds Q s r h => by
  unfold dLen at h
  split at h
  · obtain ⟨v, rfl, r1⟩ := vrs1 r
    cases r1
    obtain ⟨hz, h⟩ := guardR_post h
    exact ⟨_, _, rfl, ⟨hz, rfl⟩, h.here s (.int _)⟩
  · obtain ⟨v, rfl, r1⟩ := vrs1 r
    split at h
    · rename_i es e
      obtain ⟨a, xs, rfl, h1, h2⟩ := seqR_of s r1 e
      refine ⟨.ref a, xs.length, rfl, ?_, h.here s (by rw [← h2.length]; exact .int _)⟩
      exact h1.imp (fun h => ⟨xs, h, rfl⟩) fun h => ⟨xs, h, rfl⟩
    · exact h.elim
  · exact h.elim
/-- isinstance(x, T), x data -/
def isaPy : String → PyData → Option Bool := fun T p =>
  if T = "int" then some p.isInt else if T = "bool" then some p.isBool else if T = "str" then some p.isStr else if T = "tuple" then some p.isTuple else if T = "list" then some p.isList else if T = "dict" then some p.isDict else none
def dIsa : List D → Sto → R D
  | [d, .ob (.ty T)], S => match toPy d S with
    | some p => ofO ((isaPy T p).map .bl) S
    | none => .bad
  | _, _ => .bad
def rIsaP (X : Cx) : List V → Hp → VK → Prop := fun vs H Q => ∃ x T p b, vs = [x, .ty T] ∧ RdP X H x p ∧ isaPy T p = some b ∧ Q (.bl b) H
theorem call_isaP {X : Cx} : CallR X (.builtin "isinstance") (rIsaP X) := by
  intro pins st σ H xs us Q I r ⟨x, T, p, b, e, hp, hb, h⟩
  subst e
  obtain ⟨u, w, rfl, r1, r2⟩ := vals2 r
  have r2' : w = .type T := r2
  subst r2'
  obtain ⟨as, hr⟩ := hp pins σ st u I r1
  have fin : ∀ tk, EP X pins σ Q (.bool b) { st with toks := tk } := fun tk => ⟨.bl b, H, I.tok tk, rfl, h⟩
  unfold isaPy at hb
  split at hb
  · rename_i e; subst e; cases hb; exact PySem.W.isinstance_int_data hr fun tk _ => fin tk
  · split at hb
    · rename_i e; subst e; cases hb; exact PySem.W.isinstance_bool_data hr fun tk _ => fin tk
    · split at hb
      · rename_i e; subst e; cases hb; exact PySem.W.isinstance_str_data hr fun tk _ => fin tk
      · split at hb
        · rename_i e; subst e; cases hb; exact PySem.W.isinstance_tuple_data hr fun tk _ => fin tk
        · split at hb
          · rename_i e; subst e; cases hb; exact PySem.W.isinstance_list_data hr fun tk _ => fin tk
          · split at hb
            · rename_i e; subst e; cases hb; exact PySem.W.isinstance_dict_data hr fun tk _ => fin tk
            · cases hb
theorem dIsa_ok {X : Cx} : CallS X.K dIsa (rIsaP X) := fun Wk ρ S H vs ds Q s r h => by
  unfold dIsa at h
  split at h
  · obtain ⟨v, w, rfl, r1, r2⟩ := vrs2 r
    cases r2
    split at h
    · rename_i p e
      obtain ⟨z, e1, p1⟩ := ofO_post h
      simp only [Option.map_eq_some_iff] at e1
      obtain ⟨b, e2, rfl⟩ := e1
      exact ⟨v, _, p, b, rfl, rdP_of s r1 e, e2, p1.here s (.bl _)⟩
    · exact h.elim
  · exact h.elim
/-- all(list of truths) -/
def boolsOf : List D → Option (List Bool)
  | [] => some []
  | .bl b :: ds => (boolsOf ds).map (b :: ·)
  | _ => none
def dAll : List D → Sto → R D
  | [d], S => match listR d S with
    | some ds => ofO ((boolsOf ds).map fun bs => .bl (bs.all id)) S
    | none => .bad
  | _, _ => .bad
theorem bools_of {ρ : Pl} {H : Hp} : ∀ {vs : List V} {ds : List D} {bs : List Bool}, VRs K ρ H vs ds → boolsOf ds = some bs → vs = bs.map V.bl
  | _, _, bs, .nil, h => by simp [boolsOf] at h; subst h; rfl
  | _, _, bs, .cons r rs, h => by
    cases r with
    | bl b =>
      simp only [boolsOf, Option.map_eq_some_iff] at h
      obtain ⟨cs, h1, rfl⟩ := h
      rw [bools_of rs h1]; rfl
    | _ => simp [boolsOf] at h
theorem dAll_ok : CallS K dAll (rAll K) := fun Wk ρ S H vs ds Q s r h => by
  unfold dAll at h
  split at h
  · obtain ⟨v, rfl, r1⟩ := vrs1 r
    split at h
    · rename_i es e
      obtain ⟨z, e1, p1⟩ := ofO_post h
      simp only [Option.map_eq_some_iff] at e1
      obtain ⟨bs, e2, rfl⟩ := e1
      obtain ⟨a, xs, rfl, h1, h2⟩ := listR_of s r1 e
      have := bools_of h2 e2
      subst this
      exact ⟨a, bs, rfl, h1, p1.here s (.bl _)⟩
    · exact h.elim
  · exact h.elim
def dInt : List D → Sto → R D
  | [.int i], S => .ok (.int i) S
  | [.bl b], S => .ok (.int (if b then 1 else 0)) S
  | _, _ => .bad
theorem dInt_ok : CallS K dInt (fun xs H Q => (∃ i, xs = [.int i] ∧ Q (.int i) H) ∨ ∃ k, xs = [.bl k] ∧ Q (.int (if k then 1 else 0)) H) := fun Wk ρ S H vs ds Q s r h => by
  unfold dInt at h
  split at h
  · obtain ⟨v, rfl, r1⟩ := vrs1 r
    cases r1
    exact .inl ⟨_, rfl, h.here s (.int _)⟩
  · obtain ⟨v, rfl, r1⟩ := vrs1 r
    cases r1
    exact .inr ⟨_, rfl, h.here s (.int _)⟩
  · exact h.elim
def dMax2 : List D → Sto → R D
  | [.int i, .int j], S => .ok (.int (if j > i then j else i)) S
  | _, _ => .bad
def dMin2 : List D → Sto → R D
  | [.int i, .int j], S => .ok (.int (if j < i then j else i)) S
  | _, _ => .bad
theorem dMax2_ok : CallS K dMax2 (fun xs H Q => ∃ i j, xs = [.int i, .int j] ∧ Q (.int (if j > i then j else i)) H) := fun Wk ρ S H vs ds Q s r h => by
  unfold dMax2 at h
  split at h
  · obtain ⟨v, w, rfl, r1, r2⟩ := vrs2 r
    cases r1; cases r2
    exact ⟨_, _, rfl, h.here s (.int _)⟩
  · exact h.elim
def dDivmod : List D → Sto → R D
  | [.int i, .int j], S => guardR (0 < j ∧ j < 1073741824) (.ok (.tup [.int (i / j), .int (i % j)]) S)
  | _, _ => .bad
theorem dDivmod_ok : CallS K dDivmod (fun xs H Q => ∃ i j, xs = [.int i, .int j] ∧ CDiv i j ∧ ∀ p, H p = none → Q (.ref p) (upd H p (.tup [.int (i / j), .int (i % j)]))) := fun Wk ρ S H vs ds Q s r h => by
  unfold dDivmod at h
  split at h
  · obtain ⟨v, w, rfl, r1, r2⟩ := vrs2 r
    cases r1; cases r2
    obtain ⟨hc, h⟩ := guardR_post h
    exact ⟨_, _, rfl, hc, h.newTup s (.cons (.int _) (.cons (.int _) .nil))⟩
  · exact h.elim
def dTuple : List D → Sto → R D
  | [.tup ds], S => .ok (.tup ds) S
  | [d], S => match listR d S with
    | some ds => .ok (.tup ds) S
    | none => .bad
  | _, _ => .bad
theorem dTuple_ok : CallS K dTuple (fun xs H Q => ∃ p ys, xs = [.ref p] ∧ ((SqL K H p ys ∧ ∀ l, H l = none → Q (.ref l) (upd H l (.tup ys))) ∨ (SqT K H p ys ∧ Q (.ref p) H))) := fun Wk ρ S H vs ds Q s r h => by
  unfold dTuple at h
  split at h
  · obtain ⟨v, rfl, r1⟩ := vrs1 r
    obtain ⟨a, xs, rfl, h1, h2⟩ := tup_of r1
    exact ⟨a, xs, rfl, .inr ⟨h1, h.here s r1⟩⟩
  · obtain ⟨v, rfl, r1⟩ := vrs1 r
    split at h
    · rename_i es e
      obtain ⟨a, xs, rfl, h1, h2⟩ := listR_of s r1 e
      exact ⟨a, xs, rfl, .inl ⟨h1, h.newTup s h2⟩⟩
    · exact h.elim
  · exact h.elim
def dList : List D → Sto → R D
  | [d], S => match seqR d S with
    | some ds => .ok (.lst ds) S
    | none => .bad
  | _, _ => .bad
/-! ### repr -/
def reprOk (p : PyData) : Bool := p.showable && decide (p.depth ≤ 64) && decide (p.shown.length ≤ sizeLine)
def dRepr : List D → Sto → R D
  | [d], S => match toPy d S with
    | some p => if (reprOk p && (!p.hasDict || noList d)) = true then .ok (.str p.shown) S else .bad
    | none => .bad
  | _, _ => .bad
def rReprP (X : Cx) : List V → Hp → VK → Prop := fun vs H Q => ∃ x p, vs = [x] ∧ ((RdP X H x p ∧ p.hasDict = false) ∨ RdS X H x p) ∧ reprOk p = true ∧ Q (.str p.shown) H
theorem call_reprP {X : Cx} (hu : X.A.units + 100 < cLine) (hg : X.A.guards = some []) : CallR X (.builtin "repr") (rReprP X) := by
  intro pins st σ H xs us Q I r ⟨x, p, e, hp, hk, h⟩
  subst e
  obtain ⟨u, rfl, r1⟩ := vals1 r
  simp only [reprOk, Bool.and_eq_true, decide_eq_true_eq] at hk
  obtain ⟨⟨k1, k2⟩, k3⟩ := hk
  obtain ⟨as, hr, hs⟩ : ∃ as, Reads st.heap u p as ∧ (p.hasDict = true → sysModules ∉ as) := by
    rcases hp with ⟨hp, hd⟩ | hp
    · obtain ⟨as, hr⟩ := hp pins σ st u I r1
      exact ⟨as, hr, fun z => by rw [hd] at z; cases z⟩
    · obtain ⟨as, hr, hs⟩ := hp pins σ st u I r1
      exact ⟨as, hr, fun _ => hs⟩
  have fin : ∀ h' tk, (∀ b o, st.heap.get? b = some o → h'.get? b = some o) → ∀ t, EP X pins σ Q (.str p.shown t) { st with heap := h', toks := tk } := fun h' tk k t => ⟨.str p.shown, H, I.kept k, ⟨t, rfl⟩, h⟩
  cases hr with
  | none => exact P.repr_of_none (fin st.heap _ (fun _ _ e => e) _)
  | bool b => exact P.repr_of_bool (by
      have := fin st.heap (st.toks + 1) (fun _ _ e => e) st.toks
      simpa only [PyData.shown] using this)
  | int i t =>
    simp only [PyData.showable, decide_eq_true_eq] at k1
    exact P.repr_of_int k1 (by
      have := fin st.heap (st.toks + 1) (fun _ _ e => e) st.toks
      simpa only [PyData.shown] using this)
  | str z t =>
    refine P.repr_of_str (by
      have := fin st.heap (st.toks + 1) (fun _ _ e => e) st.toks
      simpa only [PyData.shown] using this) (by simpa only [PyData.shown] using k3)
  | list h1 h2 h3 h4 => exact repr_of_reads' (.list h1 h2 h3 h4) k1 hs hg (by omega) (fun _ _ e => e) (fun h' t tk k => fin h' tk k t) k3
  | tuple h1 h2 h3 h4 => exact repr_of_reads' (.tuple h1 h2 h3 h4) k1 hs hg (by omega) (fun _ _ e => e) (fun h' t tk k => fin h' tk k t) k3
  | dict h1 h2 h3 h4 h5 => exact repr_of_reads' (.dict h1 h2 h3 h4 h5) k1 hs hg (by omega) (fun _ _ e => e) (fun h' t tk k => fin h' tk k t) k3
theorem dRepr_ok {X : Cx} : CallS X.K dRepr (rReprP X) := fun Wk ρ S H vs ds Q s r h => by
  unfold dRepr at h
  split at h
  · obtain ⟨v, rfl, r1⟩ := vrs1 r
    split at h
    · rename_i p e
      split at h
      · rename_i c
        simp only [Bool.and_eq_true, Bool.or_eq_true, Bool.not_eq_true'] at c
        refine ⟨v, p, rfl, ?_, c.1, h.here s (.str _)⟩
        rcases c.2 with c | c
        · exact .inl ⟨rdP_of s r1 e, c⟩
        · refine .inr (rdS_of r1 ?_ c)
          rename_i d _ _
          cases d with
          | loc l => simp [noList] at c
          | _ => exact e
      · exact h.elim
    · exact h.elim
  · exact h.elim
end
end Z

/-! Z8: methods of lists, stores into lists, empty dicts, defs by their bodies, the law's end. -/
namespace Z
open PySem L2

/-! ### methods of built-in types -/
def isTy (T : String) : D → Sto → Bool
  | .lst _, _ => T == "list"
  | .scr _, _ => T == "list"
  | .str _, _ => T == "str"
  | .dct _ _, _ => T == "dict"
  | .loc l, S => match S[l]? with
    | some (.lst _) => T == "list"
    | some (.dK false _) => T == "dict"
    | some (.dT false _) => T == "dict"
    | _ => false
  | _, _ => false
theorem isTy_of {K : PySem.W.Frag} {ρ : Pl} {H : Hp} {S : Sto} {v : V} {d : D} {T : String} (s : SR K ρ S H) (r : VR K ρ H v d) (h : isTy T d S = true) : tyV K T v H := by
  cases r with
  | lst h1 h2 hs => exact .inl ⟨by simpa [isTy] using h, _, SqL.of h1⟩
  | scr h1 hs =>
    obtain ⟨a, xs, e, k1, k2⟩ := listR_of s (VR.scr h1 hs) rfl
    cases e
    exact .inl ⟨by simpa [isTy] using h, _, k1⟩
  | str x => exact (by simpa [isTy] using h : T = "str")
  | dct h1 h2 hk hs => exact .inr (.inr (.inl ⟨by simpa [isTy] using h, .inl ⟨_, h1⟩⟩))
  | @loc a l hl =>
    simp only [isTy] at h
    split at h
    · rename_i ds e
      obtain ⟨xs, k1, k2⟩ := s.at hl e
      exact .inl ⟨by simpa using h, _, SqL.of k1⟩
    · rename_i kvs e
      obtain ⟨ws, k1, k2⟩ := s.at hl e
      exact .inr (.inr (.inl ⟨by simpa using h, .inl ⟨_, k1⟩⟩))
    · rename_i kvs e
      obtain ⟨ws, k1, k2⟩ := s.at hl e
      exact .inr (.inr (.inl ⟨by simpa using h, .inr ⟨_, k1⟩⟩))
    · cases h
  | _ => simp [isTy] at h
def MethS (K : PySem.W.Frag) (f : D → List D → Sto → R D) (r : V → List V → Hp → VK → Prop) : Prop := ∀ (Wk : XK) (ρ : Pl) (S : Sto) (H : Hp) (v : V) (d : D) (vs : List V) (ds : List D) (Q : VK), SR K ρ S H → VR K ρ H v d → VRs K ρ H vs ds → Post K Wk ρ H (f d ds S) (VR K) Q → r v vs H Q
def mMeth (T : String) (f : D → List D → Sto → R D) (m : ME) (ms : MA) : ME := fun τ S => (m τ S).bind fun o S1 => if isTy T o S1 = true then (ms τ S1).bind fun xs S2 => f o xs S2 else .bad
section
variable {X : Cx} {W : WX} {o e : Expr} {es : List Expr} {m : ME} {ms : MA} {name : Str} {apos cpos : Pos} {T id : String} {r : V → List V → Hp → VK → Prop} {f : D → List D → Sto → R D}
theorem z_meth (pa : PlainAttrs T) (slot : Slot T name id) (hty : typeOf (.builtin id) = pure (.type "method_descriptor")) (hm : MtR X id r) (hs : MethS X.K f r) (ho : PE X o (Em X.K W m)) (ha : PA X (e :: es) (Am X.K W ms))
    (h : PE X (.Call (.Attribute o name apos) (e :: es) [] cpos) (tBM X.K T r (Em X.K W m) (Am X.K W ms))) : PE X (.Call (.Attribute o name apos) (e :: es) [] cpos) (Em X.K W (mMeth T f m ms)) := PE_imp h fun σ H Q ⟨ρ, τ, S, s, er, p⟩ => by
  refine Em_bind s er p fun ρ1 H1 S1 v d s1 r1 e1 v1 p1 => ?_
  split at p1
  · rename_i c
    refine ⟨isTy_of s1 v1 c, Am_bind s1 r1 p1 fun ρ2 H2 S2 vs ds s2 r2 e2 v2 p2 => hs _ ρ2 S2 H2 v d vs ds Q s2 (v1.mono e2) v2 p2⟩
  · exact p1.elim
/-- xs.append(e) -/
def dAppend : D → List D → Sto → R D
  | .loc l, [y], S => match S[l]? with
    | some (.lst ds) => guardR (ds.length < sizeLine) (.ok .non (S.set l (.lst (ds ++ [y]))))
    | _ => .bad
  | _, _, _ => .bad
/-- a list of the store is changed -/
theorem setLst {K : PySem.W.Frag} {Wk : XK} {ρ : Pl} {S : Sto} {H : Hp} {l : Nat} {a : Addr} {d : D} {v : V} {xs ys : List V} {es : List D} {Q : VK} (s : SR K ρ S H) (hl : ρ.loc[l]? = some a) (k1 : H a = some (.lst xs)) (rs : VRs K ρ H ys es) (rv : VR K ρ H v d)
    (h : Post K Wk ρ H (.ok d (S.set l (.lst es))) (VR K) Q) : Q v (upd H a (.lst ys)) :=
  h ρ _ v (Ext.set hl (.of k1)) (s.set hl ⟨ys, upd_same, rs.mono (Ext.set hl (.of k1))⟩) (rv.mono (Ext.set hl (.of k1)))
theorem dAppend_ok {K : PySem.W.Frag} : MethS K dAppend rAppend := fun Wk ρ S H v d vs ds Q s r rs h => by
  unfold dAppend at h
  split at h
  · obtain ⟨y, rfl, ry⟩ := vrs1 rs
    split at h
    · rename_i es e
      obtain ⟨hz, h⟩ := guardR_post h
      cases r with
      | @loc a _ hl =>
        obtain ⟨xs, k1, k2⟩ := s.at hl e
        exact ⟨a, xs, y, rfl, rfl, k1, by rw [k2.length]; exact hz, setLst s hl k1 (k2.append (.cons ry .nil)) .non h⟩
    · exact h.elim
  · exact h.elim
theorem z_append (ho : PE X o (Em X.K W m)) (ha : PA X [e] (Am X.K W ms)) (h : PE X (.Call (.Attribute o "append" apos) [e] [] cpos) (tBM X.K "list" rAppend (Em X.K W m) (Am X.K W ms))) :
    PE X (.Call (.Attribute o "append" apos) [e] [] cpos) (Em X.K W (mMeth "list" dAppend m ms)) := z_meth PySem.F.plainAttrs_list PySem.F.slot_list_append PySem.F.type_list_append mt_append dAppend_ok ho ha h
/-! ### a[i] = e -/
def sSub (o i v : ME) : MS := fun τ S => liftS (v τ S) τ fun y S1 => liftS (o τ S1) τ fun a S2 => liftS (i τ S2) τ fun k S3 => match a, k with
  | .loc l, .int n => match S3[l]? with
    | some (.lst ds) => match ixN ds.length n with
      | some j => .nx τ (S3.set l (.lst (ds.set j y)))
      | none => .bad
    | _ => .bad
  | _, _ => .bad
/-! ### {} -/
def mDct0 : ME := fun _ S => .ok (.dct [] []) S
def mDctN : ME := fun _ S => .ok (.loc S.length) (S ++ [.dK false []])
def mDctT : ME := fun _ S => .ok (.loc S.length) (S ++ [.dT false []])
variable {pos : Pos}
theorem z_dict0 : PE X (.Dict [] [] pos) (Em X.K W mDct0) := PE_imp pe_dnewK fun σ H Q ⟨ρ, τ, S, s, r, p⟩ => fun q hq => p ρ _ _ (Ext.fresh hq) (s.laid hq) (.dct upd_same (s.fresh hq) rfl .nil)
end

/-! ### a def by its body -/
/-- the body run on the arguments, N slots in all -/
def runD (n N : Nat) (b : MS) : List D → Sto → R D := fun ds S => if ds.length = n then (match b (ds.map some ++ List.replicate (N - ds.length) none) S with
  | .rt d S' => .ok d S'
  | .nx _ S' => .ok .non S'
  | .ex _ c fs S' => .ex c fs S'
  | _ => .bad) else .bad
theorem er_start {K : PySem.W.Frag} {ρ : Pl} {H : Hp} {vs : List V} {ds : List D} {N : List Str} (r : VRs K ρ H vs ds) : ER K ρ H (ds.map some ++ List.replicate (N.length - ds.length) none) (L2.start N vs) := by
  unfold L2.start
  refine ⟨by simp [r.length], fun i d h => ?_⟩
  by_cases hi : i < ds.length
  · rw [List.getElem?_append_left (by simpa using hi), List.getElem?_map] at h
    cases q : ds[i]? with
    | none => rw [q] at h; cases h
    | some e =>
      rw [q] at h
      cases h
      obtain ⟨v, h1, h2⟩ := r.get q
      refine ⟨v, ?_, h2⟩
      rw [List.getElem?_append_left (by simp [r.length, hi]), List.getElem?_map, h1]; rfl
  · rw [List.getElem?_append_right (by simpa using hi)] at h
    rw [List.getElem?_replicate] at h
    split at h <;> cases h
section
variable {P : Program} {w : World} {K : PySem.W.Frag} {mg : Str → Option Value} {base : Heap}
/-- the context of a body -/
abbrev bodyCx (P : Program) (w : World) (K : PySem.W.Frag) (mg : Str → Option Value) (base : Heap) (N : List Str) (qual : Str) (st : Stmt) (g : Addr) (cdv : Value) (A : Around) (fs : List Env) (s : Shared) (H : Hp) (E : XK) : Cx := cxOf (L2.CX P w) P w K mg base N qual (defScope st) g cdv A fs s H E
theorem fnG_of {x qual : Str} {st : Stmt} {g : Addr} {fd : FuncData} {N ps : List Str} {k n : Nat} {b : MS} (F : Fun K x qual st g fd) (Sc : FnScope N ps (defScope st)) (hn : ps.length = n)
    (hb : ∀ (cdv : Value) (A : Around) (fs : List Env) (s : Shared) (H : Hp) (E : XK), Room k (bodyCx P w K mg base N qual st g cdv A fs s H E).A → (bodyCx P w K mg base N qual st g cdv A fs s H E).A.guards = some [] →
      PSs (bodyCx P w K mg base N qual st g cdv A fs s H E) (defBody st) (Sm K (fun c d _ H' => E c d H') b)) :
    FnG P w K mg base (k + 1) g fd ps (runD n N.length b) := by
  refine ⟨fun ds S h => ?_, ?_⟩
  · unfold runD at h
    split at h
    · omega
    · exact absurd rfl h
  intro A fs s H ar us vs Q E hr hg e0 hbd hv hsf
  obtain ⟨oc, od, kV, doc, pm, an, cdv, ct, osl, rfl, lk, hcd⟩ := F.ex
  obtain ⟨ρ, S, ds, sr, dv, po⟩ := hsf
  unfold runD at po
  split at po
  case isFalse => exact po.elim
  rename_i hlen
  have hlv : vs.length = ps.length := by rw [dv.length, hn]; exact hlen
  have KX : K.In s.heap := e0.mod.kin.keeps fun b o e => (e0.bs b o e).1
  have lim : s.heap.NoLimit := e0.mod.nolimit.keeps fun b o e => (e0.bs b o e).1
  have hkind : ∀ y ∈ ps.zip us, (defScope st).names.lookup y.1 = some .local ∨ ((defScope st).names.lookup y.1 = some .cell ∧ ((cellsFrom (s.heap.objs.size + 1) (defScope st).names []).lookup y.1).isSome = true) := by
    rintro ⟨nm, u⟩ hy
    rcases Sc.par nm (List.of_mem_zip hy).1 with q | q
    · exact .inl q
    · exact .inr ⟨q, PySem.W.cellsFrom_some _ _ _ (.inl q)⟩
  refine codeAny_call_function hr.depth (KX _ _ lk) rfl Sc.co Sc.gen rfl (PySem.W.codeRec_of KX hcd) (hbd _ _ _ _ ?_)
  refine wpAny_newFunctionEnv_cells Sc.kind hkind ?_
  intro env he s1 ic
  subst he
  refine ⟨lim.keeps ic.toInCall.keep, codeAny_func ?_⟩
  have body := hb cdv A fs s H E (hr.deeper _) hg
  have I := inv_start (CX := L2.CX P w) (E := E) Sc hr.hd e0 hlv hv ic
  refine wpAny_mono (body.run [] s1 (L2.start N vs) H { nx := fun _ H' => Q .non H', rt := Q } I ?_) ?_ fun _ _ z => z
  · refine ⟨ρ, _, S, sr, er_start dv, ?_⟩
    cases q : b (ds.map some ++ List.replicate (N.length - ds.length) none) S with
    | rt d S' => rw [q] at po; exact po
    | nx τ' S' => rw [q] at po; exact fun ρ' σ' H' e' s' _ => po ρ' H' .non e' s' .non
    | ex τ' c fs2 S' => rw [q] at po; exact fun ρ' σ' H' dd e' s' _ x' => po ρ' H' dd e' s' x'
    | bk τ' S' => rw [q] at po; exact po.elim
    | ct τ' S' => rw [q] at po; exact po.elim
    | bad => rw [q] at po; exact po.elim
  · intro fl s' hs
    have fin : ∀ {σ' : St} {H' : Hp} {v : V} {u : Value}, Inv (bodyCx P w K mg base N qual st g cdv A fs s H E) [] σ' H' s' → RelV v u → Q v H' → CE fs P w H s Q u s' :=
      fun {σ' H' v u} J rv q => ⟨v, H', J.os, J.bare, J.base, J.hok, rv, q⟩
    match fl, hs with
    | .ret u, ⟨v, σ', H', J, rv, q⟩ => exact fin J rv q
    | .next, ⟨σ', H', J, q⟩ => exact fin (v := .non) (u := .none) J rfl q
    | .brk, ⟨_, _, _, q⟩ => exact q.elim
    | .cont, ⟨_, _, _, q⟩ => exact q.elim
end

/-! ### the law's end -/
section
open PySem.Spec PyProof.Rows
/-- a heap in which the script alone is told, if it is no object of the text -/
def seeOnly (a : Addr) (o : Option HO) : Hp := fun b => if b = a then o else none
theorem seeOnly_some {a b : Addr} {o : Option HO} {u : HO} (h : seeOnly a o b = some u) : b = a ∧ o = some u := by
  unfold seeOnly at h
  split at h
  · exact ⟨by assumption, h⟩
  · cases h
/-- the script as it stands at the call -/
structure Script (P : Program) (w : World) (K : PySem.W.Frag) (h : Heap) (a : Addr) (ns : List Int) (o : Option HO) : Prop where
  ok : HOk P w (seeOnly a o) h
  vr : VR K ⟨[], []⟩ (seeOnly a o) (.ref a) (.scr (ns.map D.int))
  free : o ≠ none → K.lookup a = none
  frz : ∀ u, o = some u → ∃ ob xs, u = .frz ob (.lst xs) ∧ h.get? a = some ob
  seq : ∃ ob its n, h.get? a = some ob ∧ ob.data = .seq its n
theorem script_stands {P : Program} {w : World} {K : PySem.W.Frag} {h : Heap} {a : Addr} {vs : List Value} {ns : List Int} (KX : K.In h) (ha : h.get? a = some { cls := .type "list", data := .seq vs.toArray }) (hi : IntsAre vs ns) (hl : ns.length ≤ sizeLine) : ∃ o, Script P w K h a ns o := by
  have rv := vals_ints hi
  have hlen := hi.length
  cases q : K.lookup a with
  | some ob =>
    have e := KX a ob q
    rw [ha] at e
    cases e
    refine ⟨none, fun b u z => absurd (seeOnly_some z).2 (by simp), .scr (.inr fun H' => .inr ⟨_, vs.toArray, _, q, rfl, rfl, rfl, by rw [List.size_toArray]; omega, rv⟩) (VRs.map_int ns), fun z => absurd rfl z, fun u z => absurd z (by simp), ⟨_, _, _, ha, rfl⟩⟩
  | none =>
    refine ⟨some (.frz { cls := .type "list", data := .seq vs.toArray } (.lst (ns.map V.int))), fun b u z => ?_, .scr (.inl ⟨_, if_pos rfl, fun z => ?_⟩) (VRs.map_int ns), fun _ => q, fun u z => ?_, ⟨_, _, _, ha, rfl⟩⟩
    · obtain ⟨rfl, e⟩ := seeOnly_some z
      cases e
      refine ⟨ha, ?_, vs, _, rv, ha⟩
      rw [List.length_map]; exact hl
    · rcases z with z | z <;> exact nomatch z
    · cases z; exact ⟨_, _, rfl, ha⟩
end
end Z

/-! Z9: the rules in their last form, for the printed derivations. -/
namespace Z
open PySem L2 PyProof.Rows
theorem un100 {k : Nat} {A : Around} (r : Room k A) : A.units + 100 < cLine := by have := r.un; omega
section
variable {X : Cx} {W : WX} {e a b c o i v : Expr} {es : List Expr} {m ma mb mc mo mi mv : ME} {ms : MA} {pos pos' apos cpos : Pos}
theorem op_addZ : OpR X (binaryOp .Add) (rAddR X.K) := op_add.or (op_add_str.or (op_catA.or op_cat))
theorem op_mulZ : OpR X (binaryOp .Mult) (rMulR X.K) := op_mul.or op_repT
theorem z_add (ha : PE X a (Em X.K W ma)) (hb : PE X b (Em X.K W mb)) : PE X (.BinOp a .Add b pos) (Em X.K W (mBin dAdd ma mb)) := z_bin op_addZ dAdd_ok ha hb
theorem z_sub (ha : PE X a (Em X.K W ma)) (hb : PE X b (Em X.K W mb)) : PE X (.BinOp a .Sub b pos) (Em X.K W (mBin dSub ma mb)) := z_bin op_sub dSub_ok ha hb
theorem z_mul (ha : PE X a (Em X.K W ma)) (hb : PE X b (Em X.K W mb)) : PE X (.BinOp a .Mult b pos) (Em X.K W (mBin dMul ma mb)) := z_bin op_mulZ dMul_ok ha hb
theorem z_mod (ha : PE X a (Em X.K W ma)) (hb : PE X b (Em X.K W mb)) : PE X (.BinOp a .Mod b pos) (Em X.K W (mBin dMod ma mb)) := z_bin op_mod dMod_ok ha hb
theorem z_fdiv (ha : PE X a (Em X.K W ma)) (hb : PE X b (Em X.K W mb)) : PE X (.BinOp a .FloorDiv b pos) (Em X.K W (mBin dFdiv ma mb)) := z_bin op_fdiv dFdiv_ok ha hb
theorem z_pow (ha : PE X a (Em X.K W ma)) (hb : PE X b (Em X.K W mb)) : PE X (.BinOp a .Pow b pos) (Em X.K W (mBin dPow ma mb)) := z_bin op_pow dPow_ok ha hb
/-- a comparison's rule with its reading -/
structure CmpZ (X : Cx) (op : CmpOp) (f : D → D → Sto → R D) : Prop where
  ex : ∃ r, OpR X (compareOp op) r ∧ OpS X.K f r
theorem c_eq (hu : X.A.units + 100 < cLine) : CmpZ X .Eq dEq := ⟨_, op_eqP hu, dDat_ok plainB_C⟩
theorem c_ne (hu : X.A.units + 100 < cLine) : CmpZ X .NotEq dNe := ⟨_, op_neP hu, dDat_ok plainB_C⟩
theorem c_lt (hu : X.A.units + 100 < cLine) : CmpZ X .Lt dLt := ⟨_, op_ltP hu, dDat_ok alikeB_C⟩
theorem c_gt (hu : X.A.units + 100 < cLine) : CmpZ X .Gt dGt := ⟨_, op_gtP hu, dDat_ok alikeB_C⟩
theorem c_le (hu : X.A.units + 100 < cLine) : CmpZ X .LtE dLe := ⟨_, op_leP hu, dDat_ok alikeB_C⟩
theorem c_ge (hu : X.A.units + 100 < cLine) : CmpZ X .GtE dGe := ⟨_, op_geP hu, dDat_ok alikeB_C⟩
theorem c_is : CmpZ X .Is (dIsN false) := ⟨_, op_isN, dIs_ok⟩
theorem e_cmp {op : CmpOp} {f : D → D → Sto → R D} (hc : CmpZ X op f) (ha : PE X a (Em X.K W ma)) (hb : PE X b (Em X.K W mb)) (hm : behindInMarks op b = false := by first | exact nomark _ | rfl) : PE X (.Compare a [op] [b] pos) (Em X.K W (mBin f ma mb)) := by
  obtain ⟨r, h1, h2⟩ := hc
  exact z_cmp h1 h2 ha hb hm
theorem tt_cmp {op : CmpOp} {f : D → D → Sto → R D} (hc : CmpZ X op f) (ha : PE X a (Em X.K W ma)) (hb : PE X b (Em X.K W mb)) (hm : behindInMarks op b = false := by first | exact nomark _ | rfl) : PT X (.Compare a [op] [b] pos) (Tm X.K W (mB (mBin f ma mb))) := by
  obtain ⟨r, h1, h2⟩ := hc
  exact t_cmp h1 h2 ha hb hm
theorem e_chain {op op' : CmpOp} {f g : D → D → Sto → R D} (h1 : CmpZ X op f) (h2 : CmpZ X op' g) (ha : PE X a (Em X.K W ma)) (hb : PE X b (Em X.K W mb)) (hc : PE X c (Em X.K W mc)) (hm : lastMarks [op, op'] [b, c] = false := by with_unfolding_all rfl) :
    PE X (.Compare a [op, op'] [b, c] pos) (Em X.K W (mChain f g ma mb mc)) := by
  obtain ⟨r, k1, k2⟩ := h1
  obtain ⟨r', k3, k4⟩ := h2
  exact z_chain k1 k2 k3 k4 ha hb hc (pe_chain k1 k3 ha hb hc hm)
theorem tt_chain {op op' : CmpOp} {f g : D → D → Sto → R D} (h1 : CmpZ X op f) (h2 : CmpZ X op' g) (ha : PE X a (Em X.K W ma)) (hb : PE X b (Em X.K W mb)) (hc : PE X c (Em X.K W mc)) (hm : lastMarks [op, op'] [b, c] = false := by with_unfolding_all rfl) :
    PT X (.Compare a [op, op'] [b, c] pos) (Tm X.K W (mB (mChain f g ma mb mc))) := by
  obtain ⟨r, k1, k2⟩ := h1
  obtain ⟨r', k3, k4⟩ := h2
  refine PT_imp (pt_chain k1 k3 ha hb hc hm) fun σ H Q ⟨ρ, τ, S, s, e, p⟩ => ?_
  have p' : Post X.K (fun c d H' => W c d σ H') ρ H ((ma τ S).bind fun x S1 => (mb τ S1).bind fun y S2 => (f x y S2).bind fun k S3 => (asB k S3).bind fun k S3 => if k = true then (mc τ S3).bind fun z S4 => (g y z S4).bind asB else .ok false S3) relB Q := by
    have : (mB (mChain f g ma mb mc) τ S) = ((ma τ S).bind fun x S1 => (mb τ S1).bind fun y S2 => (f x y S2).bind fun k S3 => (asB k S3).bind fun k S3 => if k = true then (mc τ S3).bind fun z S4 => (g y z S4).bind asB else .ok false S3) := by
      unfold mB mChain
      cases ma τ S with
      | ok x S1 =>
        simp only [R.bind_ok]
        cases mb τ S1 with
        | ok y S2 =>
          simp only [R.bind_ok]
          cases f x y S2 with
          | ok k S3 =>
            simp only [R.bind_ok]
            cases asB k S3 with
            | ok k2 S4 =>
              simp only [R.bind_ok]
              cases k2 with
              | true =>
                simp only [if_true]
                cases mc τ S4 <;> rfl
              | false => rfl
            | _ => rfl
          | _ => rfl
        | _ => rfl
      | _ => rfl
    rw [← this]; exact p
  refine Em_bind s e p' fun ρ1 H1 S1 v d s1 e1 x1 v1 p1 => ?_
  refine Em_bind s1 e1 p1 fun ρ2 H2 S2 w d2 s2 e2 x2 v2 p2 => ?_
  refine k2 _ ρ2 S2 H2 v w d d2 _ s2 (v1.mono x2) v2 (Post.bind p2 fun ρ3 H3 S3 z dz x3 s3 v3 p3 => ?_)
  cases v3 with
  | bl k =>
    refine ⟨k, rfl, ?_⟩
    cases k with
    | true =>
      simp only [asB, R.bind_ok, if_true] at p3 ⊢
      refine Em_bind s3 (e2.mono x3) p3 fun ρ4 H4 S4 u d4 s4 e4 x4 v4 p4 => k4 _ ρ4 S4 H4 w u d2 d4 _ s4 ((v2.mono x3).mono x4) v4 (Post.bind p4 fun ρ5 H5 S5 z5 dz5 x5 s5 v5 p5 => asB_post s5 v5 p5)
    | false =>
      simp only [asB, R.bind_ok] at p3 ⊢
      rw [if_neg (by decide)] at p3 ⊢
      exact ⟨false, rfl, p3.here s3 rfl⟩
  | _ => exact (show False from p3).elim
/-! ### names of the module -/
theorem z_gint {x : Str} {n : Int} (hm : ∃ t, X.mg x = some (.int n t)) (hg : Gl X x := by rfl) (hd : (x == ("__debug__" : Str)) = false := by decide) : PE X (.Name x pos) (Em X.K W (mC (.int n))) :=
  let ⟨t, h⟩ := hm
  z_glob (v := .int n) h ⟨t, rfl⟩ (fun _ _ => .int n) hg hd
theorem z_gstr {x : Str} {z : Str} (hm : ∃ t, X.mg x = some (.str z t)) (hg : Gl X x := by rfl) (hd : (x == ("__debug__" : Str)) = false := by decide) : PE X (.Name x pos) (Em X.K W (mC (.str z))) :=
  let ⟨t, h⟩ := hm
  z_glob (v := .str z) h ⟨t, rfl⟩ (fun _ _ => .str z) hg hd
theorem z_ty {x : Str} {T : String} (hm : X.mg x = none) (hv : bootBuiltins x = some (.type T)) (hg : Gl X x := by rfl) (hn : x ≠ "__name__" := by decide) (hd : (x == ("__debug__" : Str)) = false := by decide) : PE X (.Name x pos) (Em X.K W (mC (.ob (.ty T)))) :=
  z_c (pe_bltn (v := .ty T) hg hm hv rfl hn hd) fun _ _ => .ob _
/-! ### statements -/
theorem s_set {i : Nat} {x : Str} (hN : X.N.Nodup) (hi : X.N[i]? = some x) (hx : Loc X.env.scope x) (he : PE X e (Em X.K W m)) (hs : swapsWith e (some (.Name x pos')) pos.line X.env = pure false := by rfl) (hf : X.fn x = true ∨ X.env.scope.names.lookup x = some .local := by first | exact .inl rfl | exact .inr rfl | assumption) :
    PS X (.Assign [.Name x pos'] e pos) (Sm X.K W (sAsg i m)) := Z.s_set0 he (ps_set hN hi hx he hs hf)
theorem s_parA {i j : Nat} {x y : Str} {px py pt : Pos} {kt k2 pt2} (hc : X.calm = true) (hN : X.N.Nodup) (hi : X.N[i]? = some x) (hj : X.N[j]? = some y) (hij : i ≠ j)
    (hx : X.env.scope.names.lookup x = some .local) (hy : X.env.scope.names.lookup y = some .local) (ha : PA X [a, b] (Am X.K W ms))
    (hw : swappedStores [.Tuple [.Name x px, .Name y py] kt pt] (.Tuple [a, b] k2 pt2) X.env = pure (some [x, y]))
    (hs : swapsWithSole [.Tuple [.Name x px, .Name y py] kt pt] (.Tuple [a, b] k2 pt2) pos.line X.env = pure false := by rfl) :
    PS X (.Assign [.Tuple [.Name x px, .Name y py] kt pt] (.Tuple [a, b] k2 pt2) pos) (Sm X.K W (sPar [i, j] ms)) := s_par2 hij ha (ps_par hc hN hi hj hij hx hy ha hw hs)
theorem z_app (ho : PE X o (Em X.K W m)) (ha : PA X [e] (Am X.K W ms)) (hbase : attributeBase o "append" X.env (eval o X.env) = eval o X.env := by rfl)
    (hfew : ((backTo cpos (starEach [e] X.env)).all (fun x => !x.1) && (backToKw cpos (keywordEach [] X.env)).all (fun x => x.1.isSome) && decide ([e].length + ([] : List Keyword).length + (if ([] : List Keyword).isEmpty then 0 else 1) < 30)) = true := by rfl)
    (hline : (apos.endLine == cpos.line) = true := by rfl) (hs : starEach [e] X.env = (false, eval e X.env) :: starEach [] X.env := by rfl) (hplain : (backTo cpos (starEach [] X.env)).any (·.1) = false := by rfl) :
    PE X (.Call (.Attribute o "append" apos) [e] [] cpos) (Em X.K W (mMeth "list" dAppend m ms)) :=
  z_append ho ha (pe_bm PySem.F.plainAttrs_list PySem.F.slot_list_append PySem.F.type_list_append mt_append ho ha hbase hfew hline hs hplain)
end
/-! ### t[::k] of a tuple -/
def stepD {A : Type} (ds : List A) (k : Int) : List A :=
  (List.range (Builtin.Slice.slicePlaces (Builtin.Slice.sliceAdjust none none k ds.length).1 (Builtin.Slice.sliceAdjust none none k ds.length).2 k)).filterMap fun (j : Nat) => ds[((Builtin.Slice.sliceAdjust none none k ds.length).1 + (j : Int) * k).toNat]?
def mStep (m : ME) (k : Int) : ME := fun τ S => (m τ S).bind fun d S1 => match d with
  | .tup ds => guardR ((stepD ds k).length ≤ sizeLine) (.ok (.tup (stepD ds k)) S1)
  | _ => .bad
theorem VRs.pick {K : PySem.W.Frag} {ρ : Pl} {H : Hp} {vs : List V} {ds : List D} (h : VRs K ρ H vs ds) (f : Nat → Nat) : ∀ l : List Nat, VRs K ρ H (l.filterMap fun j => vs[f j]?) (l.filterMap fun j => ds[f j]?)
  | [] => .nil
  | j :: l => by
    rw [List.filterMap_cons, List.filterMap_cons]
    cases q : ds[f j]? with
    | none =>
      have : vs[f j]? = none := by
        rw [List.getElem?_eq_none_iff] at q ⊢
        rw [h.length]; exact q
      rw [this]
      exact VRs.pick h f l
    | some d =>
      obtain ⟨v, h1, h2⟩ := h.get q
      rw [h1]
      exact .cons h2 (VRs.pick h f l)
theorem VRs.step {K : PySem.W.Frag} {ρ : Pl} {H : Hp} {vs : List V} {ds : List D} (h : VRs K ρ H vs ds) (k : Int) : VRs K ρ H (stepD vs k) (stepD ds k) := by
  unfold stepD
  rw [h.length]
  exact h.pick _ _
theorem Vals.pick {vs : List V} {us : List Value} (r : Vals vs us) (f : Nat → Nat) : ∀ l : List Nat, Vals (l.filterMap fun j => vs[f j]?) (l.filterMap fun j => us[f j]?)
  | [] => .nil
  | j :: l => by
    rw [List.filterMap_cons, List.filterMap_cons]
    cases q : vs[f j]? with
    | none => rw [r.none_of q]; exact Vals.pick r f l
    | some d =>
      obtain ⟨u, h1, h2⟩ := r.get q
      rw [h1]
      exact .cons h2 (Vals.pick r f l)
theorem Vals.step {vs : List V} {us : List Value} (r : Vals vs us) (k : Int) : Vals (stepD vs k) (stepD us k) := by
  unfold stepD
  rw [r.length]
  exact Vals.pick r _ _
section
variable {X : Cx} {W : WX} {e st : Expr} {m : ME} {pos p3 : Pos}
end
end Z

/-! Z10: rules for the plain functions: what surely comes out (wpR, wpS), bounded trees, the pen and its draws. -/
namespace Z
open PySem L2

def wpR {A : Type} (o : R A) (Q : A → Sto → Prop) : Prop := match o with | .ok a S => Q a S | _ => False
@[simp] theorem wpR_ok {A : Type} (a : A) (S : Sto) (Q : A → Sto → Prop) : wpR (.ok a S) Q ↔ Q a S := Iff.rfl
@[simp] theorem wpR_bad {A : Type} (Q : A → Sto → Prop) : wpR (.bad) Q ↔ False := Iff.rfl
@[simp] theorem wpR_bind {A B : Type} (o : R A) (f : A → Sto → R B) (Q : B → Sto → Prop) : wpR (o.bind f) Q ↔ wpR o fun a S => wpR (f a S) Q := by cases o <;> exact Iff.rfl
@[simp] theorem wpR_guard {A : Type} (c : Prop) [Decidable c] (o : R A) (Q : A → Sto → Prop) : wpR (guardR c o) Q ↔ c ∧ wpR o Q := by
  unfold guardR
  split <;> simp_all [wpR]
@[simp] theorem wpR_ofO {A : Type} (o : Option A) (S : Sto) (Q : A → Sto → Prop) : wpR (ofO o S) Q ↔ ∃ a, o = some a ∧ Q a S := by cases o <;> simp [ofO, wpR]
theorem wpR_imp {A : Type} {o : R A} {Q Q' : A → Sto → Prop} (h : wpR o Q) (k : ∀ a S, Q a S → Q' a S) : wpR o Q' := by
  cases o <;> first | exact k _ _ h | exact h
theorem wpR_get {A : Type} {o : R A} {Q : A → Sto → Prop} (h : wpR o Q) : ∃ a S, o = .ok a S ∧ Q a S := by
  cases o <;> first | exact ⟨_, _, rfl, h⟩ | exact h.elim
def wpS (o : RS) (N : Tau → Sto → Prop) (T : D → Sto → Prop) : Prop := match o with | .nx τ S => N τ S | .rt d S => T d S | _ => False
@[simp] theorem wpS_nx (τ : Tau) (S : Sto) (N : Tau → Sto → Prop) (T : D → Sto → Prop) : wpS (.nx τ S) N T ↔ N τ S := Iff.rfl
@[simp] theorem wpS_rt (d : D) (S : Sto) (N : Tau → Sto → Prop) (T : D → Sto → Prop) : wpS (.rt d S) N T ↔ T d S := Iff.rfl
@[simp] theorem wpS_bad (N : Tau → Sto → Prop) (T : D → Sto → Prop) : wpS .bad N T ↔ False := Iff.rfl
@[simp] theorem wpS_lift {A : Type} (o : R A) (τ : Tau) (k : A → Sto → RS) (N : Tau → Sto → Prop) (T : D → Sto → Prop) : wpS (liftS o τ k) N T ↔ wpR o fun a S => wpS (k a S) N T := by cases o <;> exact Iff.rfl
@[simp] theorem wpS_seq (a b : MS) (τ : Tau) (S : Sto) (N : Tau → Sto → Prop) (T : D → Sto → Prop) : wpS (sSeq a b τ S) N T ↔ wpS (a τ S) (fun τ S => wpS (b τ S) N T) T := by
  unfold sSeq
  cases a τ S <;> exact Iff.rfl
section
variable {τ : Tau} {S : Sto} {N : Tau → Sto → Prop} {T : D → Sto → Prop}
@[simp] theorem x_nil : sNil τ S = .nx τ S := rfl
@[simp] theorem x_expr (m : ME) : sExpr m τ S = liftS (m τ S) τ fun _ S1 => .nx τ S1 := rfl
@[simp] theorem x_ret (m : ME) : sRet m τ S = liftS (m τ S) τ fun d S1 => .rt d S1 := rfl
@[simp] theorem x_if (t : MT) (a b : MS) : sIf t a b τ S = liftS (t τ S) τ fun k S1 => if k = true then a τ S1 else b τ S1 := rfl
@[simp] theorem wpS_ite (c : Prop) [Decidable c] (a b : RS) : wpS (if c then a else b) N T ↔ (c → wpS a N T) ∧ (¬c → wpS b N T) := by split <;> simp_all
@[simp] theorem wpR_ite {A : Type} (c : Prop) [Decidable c] (a b : R A) (Q : A → Sto → Prop) : wpR (if c then a else b) Q ↔ (c → wpR a Q) ∧ (¬c → wpR b Q) := by split <;> simp_all
@[simp] theorem x_asg (i : Nat) (m : ME) : sAsg i m τ S = liftS (m τ S) τ fun d S1 => .nx (τ.set i (some d)) S1 := rfl
@[simp] theorem x_bk : sBk τ S = .bk τ S := rfl
@[simp] theorem x_tup (is : List Nat) (m : ME) : sTup is m τ S = liftS (m τ S) τ fun d S1 => match bindT (.tp is) d τ with
  | some τ' => .nx τ' S1
  | none => .bad := rfl
@[simp] theorem x_par (is : List Nat) (ms : MA) : sPar is ms τ S = liftS (ms τ S) τ fun ds S1 => match setAll is ds τ with
  | some τ' => .nx τ' S1
  | none => .bad := rfl
@[simp] theorem x_sub (o i v : ME) : sSub o i v τ S = liftS (v τ S) τ fun y S1 => liftS (o τ S1) τ fun a S2 => liftS (i τ S2) τ fun k S3 => match a, k with
  | .loc l, .int n => match S3[l]? with
    | some (.lst ds) => match ixN ds.length n with
      | some j => .nx τ (S3.set l (.lst (ds.set j y)))
      | none => .bad
    | _ => .bad
  | _, _ => .bad := rfl
@[simp] theorem x_for (it : MI) (g : Tgt) (body : MS) : sFor it g body τ S = liftS (it τ S) τ fun i S1 => forL i.keep g body i.ds τ S1 := rfl
@[simp] theorem x_var (i : Nat) : mVar i τ S = match τ[i]? with | some (some d) => .ok d S | _ => .bad := rfl
@[simp] theorem x_c (d : D) : mC d τ S = .ok d S := rfl
@[simp] theorem x_bin (f : D → D → Sto → R D) (a b : ME) : mBin f a b τ S = (a τ S).bind fun x S1 => (b τ S1).bind fun y S2 => f x y S2 := rfl
@[simp] theorem x_B (m : ME) : mB m τ S = (m τ S).bind asB := rfl
@[simp] theorem x_asB (b : Bool) : asB (.bl b) S = .ok b S := rfl
@[simp] theorem x_T (m : ME) : mT m τ S = (m τ S).bind tru := rfl
@[simp] theorem x_tru (b : Bool) : tru (.bl b) S = .ok b S := rfl
@[simp] theorem x_chain (f g : D → D → Sto → R D) (a b c : ME) : mChain f g a b c τ S = (a τ S).bind fun x S1 => (b τ S1).bind fun y S2 => (f x y S2).bind fun k S3 => (asB k S3).bind fun k S3 =>
    if k = true then (c τ S3).bind fun z S4 => g y z S4 else .ok (.bl false) S3 := rfl
@[simp] theorem x_and (a b : MT) : mAnd a b τ S = (a τ S).bind fun k S1 => if k = true then b τ S1 else .ok false S1 := rfl
@[simp] theorem x_or (a b : MT) : mOr a b τ S = (a τ S).bind fun k S1 => if k = true then .ok true S1 else b τ S1 := rfl
@[simp] theorem x_not (a : MT) : mNot a τ S = (a τ S).bind fun k S1 => .ok (!k) S1 := rfl
@[simp] theorem x_andV (a b : ME) : mAndV a b τ S = (a τ S).bind fun x S1 => (tru x S1).bind fun k S2 => if k = true then b τ S2 else .ok x S2 := rfl
@[simp] theorem x_orV (a b : ME) : mOrV a b τ S = (a τ S).bind fun x S1 => (tru x S1).bind fun k S2 => if k = true then .ok x S2 else b τ S2 := rfl
@[simp] theorem x_notV (a : ME) : mNotV a τ S = (a τ S).bind fun x S1 => (tru x S1).bind fun k S2 => .ok (.bl (!k)) S2 := rfl
@[simp] theorem x_ifV (t : MT) (a b : ME) : mIf t a b τ S = (t τ S).bind fun k S1 => if k = true then a τ S1 else b τ S1 := rfl
@[simp] theorem x_un (f : D → Sto → R D) (a : ME) : mUn f a τ S = (a τ S).bind f := rfl
@[simp] theorem x_aNil : aNil τ S = .ok [] S := rfl
@[simp] theorem x_aCons (a : ME) (r : MA) : aCons a r τ S = (a τ S).bind fun x S1 => (r τ S1).bind fun xs S2 => .ok (x :: xs) S2 := rfl
@[simp] theorem x_mTup (r : MA) : mTup r τ S = (r τ S).bind fun xs S1 => guardR (xs.length ≤ sizeLine) (.ok (.tup xs) S1) := rfl
@[simp] theorem x_mLst (r : MA) : mLst r τ S = (r τ S).bind fun xs S1 => guardR (xs.length ≤ sizeLine) (.ok (.lst xs) S1) := rfl
@[simp] theorem x_mLstN (r : MA) : mLstN r τ S = (r τ S).bind fun xs S1 => guardR (xs.length ≤ sizeLine) (.ok (.loc S1.length) (S1 ++ [.lst xs])) := rfl
@[simp] theorem x_dct0 : mDct0 τ S = .ok (.dct [] []) S := rfl
@[simp] theorem x_call (f : List D → Sto → R D) (r : MA) : mCall f r τ S = (r τ S).bind f := rfl
@[simp] theorem x_meth (T : String) (f : D → List D → Sto → R D) (m : ME) (ms : MA) : mMeth T f m ms τ S = (m τ S).bind fun o S1 => if isTy T o S1 = true then (ms τ S1).bind fun xs S2 => f o xs S2 else .bad := rfl
@[simp] theorem x_seq (m : ME) : iSeq m τ S = (m τ S).bind fun d S1 => ofO (itemsOf d S1) S1 := rfl
@[simp] theorem x_iArgs (f : List D → Sto → Option Items) (ms : MA) : iArgs f ms τ S = (ms τ S).bind fun ds S1 => ofO (f ds S1) S1 := rfl
@[simp] theorem x_step (m : ME) (k : Int) : mStep m k τ S = (m τ S).bind fun d S1 => match d with
  | .tup ds => guardR ((stepD ds k).length ≤ sizeLine) (.ok (.tup (stepD ds k)) S1)
  | _ => .bad := rfl
@[simp] theorem x_sl (m : ME) (lo hi : Option ME) : mSl m lo hi τ S = (m τ S).bind fun d S1 => (mPart lo τ S1).bind fun l S2 => (mPart hi τ S2).bind fun h S3 => dSl d l h S3 := rfl
@[simp] theorem x_part0 : mPart none τ S = .ok none S := rfl
@[simp] theorem x_part1 (m : ME) : mPart (some m) τ S = (m τ S).bind fun d S1 => match d with
    | .int i => .ok (some i) S1
    | _ => .bad := rfl
@[simp] theorem x_slT (ds : List D) (lo hi : Option Int) : dSl (.tup ds) lo hi S = .ok (.tup (cutD ds lo hi)) S := rfl
@[simp] theorem x_slS (ds : List D) (lo hi : Option Int) : dSl (.scr ds) lo hi S = .ok (.lst (cutD ds lo hi)) S := rfl
@[simp] theorem x_slL (ds : List D) (lo hi : Option Int) : dSl (.lst ds) lo hi S = .ok (.lst (cutD ds lo hi)) S := rfl
@[simp] theorem x_comp (it : MI) (g : Tgt) (vs : List Nat) (t : MT) (e : ME) : mComp it g vs t e τ S = (it τ S).bind fun i S1 => guardR (i.ds.length ≤ sizeLine) ((lcL i.keep g vs t e i.ds τ S1).bind fun ys S2 => .ok (.lst ys) S2) := rfl
@[simp] theorem x_run (n m : Nat) (b : MS) (ds : List D) (Q : D → Sto → Prop) : wpR (runD n m b ds S) Q ↔ ds.length = n ∧ wpS (b (ds.map some ++ List.replicate (m - ds.length) none) S) (fun _ S => Q .non S) Q := by
  unfold runD
  split
  · rename_i h
    simp only [h, true_and]
    cases b (List.map some ds ++ List.replicate (m - n) none) S <;> exact Iff.rfl
  · rename_i h
    simp [h]
@[simp] theorem x_addI (i j : Int) : dAdd (.int i) (.int j) S = .ok (.int (i + j)) S := rfl
@[simp] theorem x_addT (xs ys : List D) : dAdd (.tup xs) (.tup ys) S = guardR (xs.length + ys.length ≤ sizeLine) (.ok (.tup (xs ++ ys)) S) := rfl
@[simp] theorem x_addL (xs ys : List D) : dAdd (.lst xs) (.lst ys) S = guardR (xs.length + ys.length ≤ sizeLine) (.ok (.lst (xs ++ ys)) S) := rfl
@[simp] theorem x_addS (x y : Str) : dAdd (.str x) (.str y) S = guardR (x.length + y.length ≤ sizeLine) (.ok (.str (x ++ y)) S) := rfl
@[simp] theorem x_subI (i j : Int) : dSub (.int i) (.int j) S = .ok (.int (i - j)) S := rfl
@[simp] theorem x_mulI (i j : Int) : dMul (.int i) (.int j) S = guardR ((-(2 ^ 64) < i ∧ i < 2 ^ 64) ∨ (-(2 ^ 64) < j ∧ j < 2 ^ 64)) (.ok (.int (i * j)) S) := rfl
@[simp] theorem x_mulT (xs : List D) (k : Int) : dMul (.tup xs) (.int k) S = guardR (xs.isEmpty = false ∧ 2 ≤ k ∧ k ≤ 1000 ∧ xs.length ≤ 1000) (.ok (.tup (List.replicate k.toNat xs).flatten) S) := rfl
@[simp] theorem x_modI (i j : Int) : dMod (.int i) (.int j) S = guardR (0 < j) (.ok (.int (i % j)) S) := rfl
@[simp] theorem x_fdivI (i j : Int) : dFdiv (.int i) (.int j) S = guardR (0 < j ∧ j < 1073741824) (.ok (.int (i / j)) S) := rfl
@[simp] theorem x_powI (i j : Int) : dPow (.int i) (.int j) S = guardR (0 ≤ j ∧ j ≤ 1000000 ∧ i.natAbs < 2 ^ 64) (.ok (.int (i ^ j.toNat)) S) := rfl
@[simp] theorem x_negI (i : Int) : dNeg (.int i) S = .ok (.int (-i)) S := rfl
@[simp] theorem x_lenT (ds : List D) : dLen [.tup ds] S = .ok (.int ds.length) S := rfl
@[simp] theorem x_lenL (ds : List D) : dLen [.lst ds] S = .ok (.int ds.length) S := rfl
@[simp] theorem x_lenC (ds : List D) : dLen [.scr ds] S = .ok (.int ds.length) S := rfl
@[simp] theorem x_listT (ds : List D) : dList [.tup ds] S = .ok (.lst ds) S := rfl
@[simp] theorem x_tupL (ds : List D) : dTuple [.lst ds] S = .ok (.tup ds) S := rfl
@[simp] theorem x_ixT (ds : List D) (i : Int) : dIx (.tup ds) (.int i) S = ofO (atI ds i) S := rfl
@[simp] theorem x_ixL (ds : List D) (i : Int) : dIx (.lst ds) (.int i) S = ofO (atI ds i) S := rfl
@[simp] theorem x_ixC (ds : List D) (i : Int) : dIx (.scr ds) (.int i) S = ofO (atI ds i) S := rfl
@[simp] theorem x_intI (i : Int) : dInt [.int i] S = .ok (.int i) S := rfl
@[simp] theorem x_intB (b : Bool) : dInt [.bl b] S = .ok (.int (if b then 1 else 0)) S := rfl
@[simp] theorem x_max (i j : Int) : dMax2 [.int i, .int j] S = .ok (.int (if j > i then j else i)) S := rfl
@[simp] theorem x_min (i j : Int) : dMin2 [.int i, .int j] S = .ok (.int (if j < i then j else i)) S := rfl
@[simp] theorem x_divmod (i j : Int) : dDivmod [.int i, .int j] S = guardR (0 < j ∧ j < 1073741824) (.ok (.tup [.int (i / j), .int (i % j)]) S) := rfl
@[simp] theorem x_itT (ds : List D) : itemsOf (.tup ds) S = some ⟨ds, []⟩ := rfl
@[simp] theorem x_itL (ds : List D) : itemsOf (.lst ds) S = some ⟨ds, []⟩ := rfl
@[simp] theorem x_itC (ds : List D) : itemsOf (.scr ds) S = some ⟨ds, []⟩ := rfl
@[simp] theorem x_pair {o : Option D} {P : D → Prop} : (∃ a, o = some a ∧ P a) ↔ ∃ a, o = some a ∧ P a := Iff.rfl
@[simp] theorem x_le (i j : Int) : dLe (.int i) (.int j) S = .ok (.bl (decide (i ≤ j))) S := by
  have : (!PySem.W.dataLt (.int j) (.int i)) = decide (i ≤ j) := by
    rw [PySem.W.dataLt_int]; by_cases h : i ≤ j
    · simp [h]
    · simp [h]; omega
  simp [dDat, toPy, toPyD, alikeB, PySem.W.alike, notNone, PyData.depth, this]
@[simp] theorem x_lt (i j : Int) : dLt (.int i) (.int j) S = .ok (.bl (decide (i < j))) S := by
  simp [dDat, toPy, toPyD, alikeB, PySem.W.alike, notNone, PyData.depth, PySem.W.dataLt_int]
@[simp] theorem x_gt (i j : Int) : dGt (.int i) (.int j) S = .ok (.bl (decide (j < i))) S := by
  simp [dDat, toPy, toPyD, alikeB, PySem.W.alike, notNone, PyData.depth, PySem.W.dataLt_int]
@[simp] theorem x_ge (i j : Int) : dGe (.int i) (.int j) S = .ok (.bl (decide (j ≤ i))) S := by
  have : (!PySem.W.dataLt (.int i) (.int j)) = decide (j ≤ i) := by
    rw [PySem.W.dataLt_int]; by_cases h : j ≤ i
    · simp [h]
    · simp [h]; omega
  simp [dDat, toPy, toPyD, alikeB, PySem.W.alike, notNone, PyData.depth, this]
@[simp] theorem x_eq (i j : Int) : dEq (.int i) (.int j) S = .ok (.bl (decide (i = j))) S := by
  simp [dDat, toPy, toPyD, plainB, PyData.plain, PyData.depth, PyData.eqv]
  rfl
@[simp] theorem x_ne (i j : Int) : dNe (.int i) (.int j) S = .ok (.bl (decide (i ≠ j))) S := by
  simp [dDat, toPy, toPyD, plainB, PyData.plain, PyData.depth, PyData.eqv]
  rfl
@[simp] theorem x_neS (x : Str) : dNe (.str x) (.str x) S = .ok (.bl false) S := by
  simp [dDat, toPy, toPyD, plainB, PyData.plain, PyData.depth, PyData.eqv]
@[simp] theorem x_neSS (x y : Str) : dNe (.str x) (.str y) S = .ok (.bl (!(x == y))) S := by
  simp [dDat, toPy, toPyD, plainB, PyData.plain, PyData.depth, PyData.eqv]
end
theorem atI_mem {ds : List D} {i : Int} (h0 : 0 ≤ i) (h : i < ds.length) : ∃ d, atI ds i = some d ∧ d ∈ ds ∧ ds[i.toNat]? = some d := by
  have hn : i.toNat < ds.length := by omega
  refine ⟨ds[i.toNat], ?_, List.getElem_mem hn, List.getElem?_eq_getElem hn⟩
  unfold atI ixN
  rw [if_pos h0, if_pos h]
  exact List.getElem?_eq_getElem hn
theorem cutD_mem {ds : List D} {lo hi : Option Int} {d : D} (h : d ∈ cutD ds lo hi) : d ∈ ds := List.mem_of_mem_drop (List.mem_of_mem_take h)
theorem wpR_noEx {A : Type} (o : R A) (Q : A → Sto → Prop) : wpR (noEx o) Q ↔ wpR o Q := by cases o <;> exact Iff.rfl
theorem for_wp {g : Tgt} {body : MS} {N : Tau → Sto → Prop} {T : D → Sto → Prop} (Inv : List D → Tau → Sto → Prop) (step : ∀ d ds τ S, Inv (d :: ds) τ S → ∃ τ1, bindT g d τ = some τ1 ∧ wpS (body τ1 S) (fun τ2 S2 => Inv ds τ2 S2) T)
    (fin : ∀ τ S, Inv [] τ S → N τ S) : ∀ ds τ S, Inv ds τ S → wpS (forL [] g body ds τ S) N T
  | [], τ, S, h => by
    unfold forL
    rw [keepB_nil, if_pos rfl]
    exact fin τ S h
  | d :: ds, τ, S, h => by
    unfold forL
    rw [keepB_nil, if_pos rfl]
    obtain ⟨τ1, e, w⟩ := step d ds τ S h
    rw [e]
    show wpS (match body τ1 S with | .nx τ2 S2 => forL [] g body ds τ2 S2 | .ct τ2 S2 => forL [] g body ds τ2 S2 | .bk τ2 S2 => .nx τ2 S2 | o => o) N T
    cases q : body τ1 S <;> rw [q] at w
    case nx τ2 S2 => exact for_wp Inv step fin ds τ2 S2 w
    all_goals first | exact False.elim w | exact w
theorem lc_map {g : Tgt} {vs : List Nat} {e : ME} {τ : Tau} {S : Sto} (f : D → D) : ∀ (ds : List D), (∀ d ∈ ds, ∃ τ1, bindT g d (wipeT τ vs) = some τ1 ∧ e τ1 S = .ok (f d) S) → lcL [] g vs tYesM e ds τ S = .ok (ds.map f) S
  | [], _ => by
    unfold lcL
    rw [keepB_nil, if_pos rfl]
    rfl
  | d :: ds, step => by
    unfold lcL
    rw [keepB_nil, if_pos rfl]
    obtain ⟨τ1, e1, w⟩ := step d (by simp)
    have rest := lc_map f ds (fun d hd => step d (by simp [hd]))
    rw [e1]
    show (noEx (tYesM τ1 S)).bind _ = _
    simp only [tYesM, noEx_ok, R.bind_ok, if_true, w, rest, List.map_cons]

/-! ### trees that repr can show -/
def Gd : Nat → D → Bool
  | _, .non => true
  | _, .bl _ => true
  | _, .int i => decide (i.natAbs < 10 ^ 31)
  | _, .str x => decide (x.length ≤ 8) && x.cps.toList.all fun c => decide (c < 16 ^ 8)
  | k + 1, .tup ds => decide (ds.length ≤ 16) && ds.all (Gd k)
  | k + 1, .lst ds => decide (ds.length ≤ 16) && ds.all (Gd k)
  | _, _ => false
def Wd : Nat → Nat
  | 0 => 82
  | k + 1 => 16 * (Wd k + 2) + 3
theorem Wd_pos : ∀ k, 82 ≤ Wd k
  | 0 => Nat.le_refl _
  | k + 1 => by have := Wd_pos k; unfold Wd; omega
structure PyG (k : Nat) (d : D) (p : PyData) : Prop where
  py : toPyD d = some p
  sh : p.showable = true
  nd : p.hasDict = false
  dp : p.depth ≤ k
  ln : p.shown.length ≤ Wd k
theorem Gd_all {k : Nat} : ∀ {ds : List D}, (∀ d ∈ ds, ∃ p, PyG k d p) → ∃ ps, toPyDs ds = some ps ∧ PyData.showableAll ps = true ∧ PyData.hasDictAll ps = false ∧ PyData.depthAll ps ≤ k ∧ ((PyData.shownAll ps).map (·.length)).sum + 2 * (PyData.shownAll ps).length ≤ ds.length * (Wd k + 2)
  | [], _ => ⟨[], rfl, rfl, rfl, Nat.zero_le _, by simp [PyData.shownAll]⟩
  | d :: ds, h => by
    obtain ⟨p, hp⟩ := h d (by simp)
    obtain ⟨ps, h1, h2, h3, h4, h6⟩ := Gd_all (k := k) (ds := ds) fun d hd => h d (by simp [hd])
    refine ⟨p :: ps, ?_, ?_, ?_, ?_, ?_⟩
    · simp only [toPyDs, hp.py, h1]
    · simp only [PyData.showableAll, hp.sh, h2, Bool.and_self]
    · simp only [PyData.hasDictAll, hp.nd, h3, Bool.or_self]
    · simp only [PyData.depthAll]; have := hp.dp; omega
    · simp only [PyData.shownAll, List.map_cons, List.sum_cons, List.length_cons]
      have := hp.ln
      rw [Nat.add_mul]
      omega
theorem Gd_py : ∀ (k : Nat) (d : D), Gd k d = true → ∃ p, PyG k d p := by
  have atom : ∀ (k : Nat) (d : D) (p : PyData), toPyD d = some p → p.showable = true → p.hasDict = false → p.depth = 0 → p.shown.length ≤ 82 → ∃ p, PyG k d p := fun k d p h1 h2 h3 h4 h6 => ⟨p, h1, h2, h3, by omega, by have := Wd_pos k; omega⟩
  have hInt : ∀ (k : Nat) (i : Int), i.natAbs < 10 ^ 31 → ∃ p, PyG k (.int i) p := fun k i h => by
    refine atom k _ (.int i) rfl ?_ rfl rfl ?_
    · simp only [PyData.showable, decide_eq_true_eq]
      by_cases z : i.natAbs = 0
      · rw [z]; decide
      · rw [Nat.log2_lt z]
        exact Nat.lt_of_lt_of_le h (by decide +kernel)
    · have e := int_text_length_le10 (k := 31) (by decide) h
      have e2 : (PyData.shown (.int i)).length = (toString i).length := ofString_length _
      omega
  have hStr : ∀ (k : Nat) (x : Str), x.length ≤ 8 → x.cps.toList.all (fun c => decide (c < 16 ^ 8)) = true → ∃ p, PyG k (.str x) p := fun k x h h2 => atom k _ (.str x) rfl rfl rfl rfl (by
    have e := StrLaws.reprText_len x (by simpa only [List.all_eq_true, decide_eq_true_eq] using h2)
    have e2 : x.length = x.cps.size := rfl
    show (reprText x).length ≤ 82
    omega)
  intro k
  induction k with
  | zero =>
    intro d h
    cases d with
    | non => exact atom 0 _ .none rfl rfl rfl rfl (by decide)
    | bl b => exact atom 0 _ (.bool b) rfl rfl rfl rfl (by cases b <;> decide)
    | int i => exact hInt 0 i (by simpa only [Gd, decide_eq_true_eq] using h)
    | str x =>
      simp only [Gd, Bool.and_eq_true, decide_eq_true_eq] at h
      exact hStr 0 x h.1 h.2
    | _ => simp [Gd] at h
  | succ k ih =>
    intro d h
    cases d with
    | non => exact atom _ _ .none rfl rfl rfl rfl (by decide)
    | bl b => exact atom _ _ (.bool b) rfl rfl rfl rfl (by cases b <;> decide)
    | int i => exact hInt _ i (by simpa only [Gd, decide_eq_true_eq] using h)
    | str x =>
      simp only [Gd, Bool.and_eq_true, decide_eq_true_eq] at h
      exact hStr _ x h.1 h.2
    | tup ds =>
      simp only [Gd, Bool.and_eq_true, decide_eq_true_eq, List.all_eq_true] at h
      obtain ⟨ps, h1, h2, h3, h4, h6⟩ := Gd_all (k := k) fun d hd => ih d (h.2 d hd)
      refine ⟨.tuple ps, by simp [toPyD, h1], by simpa [PyData.showable] using h2, by simpa [PyData.hasDict] using h3, by simp only [PyData.depth]; omega, ?_⟩
      have e := tupleText_len_le (PyData.shownAll ps)
      have e2 := Nat.mul_le_mul_right (Wd k + 2) h.1
      show (tupleText (PyData.shownAll ps)).length ≤ 16 * (Wd k + 2) + 3
      omega
    | lst ds =>
      simp only [Gd, Bool.and_eq_true, decide_eq_true_eq, List.all_eq_true] at h
      obtain ⟨ps, h1, h2, h3, h4, h6⟩ := Gd_all (k := k) fun d hd => ih d (h.2 d hd)
      refine ⟨.list ps, by simp [toPyD, h1], by simpa [PyData.showable] using h2, by simpa [PyData.hasDict] using h3, by simp only [PyData.depth]; omega, ?_⟩
      have e := listText_len_le (PyData.shownAll ps)
      have e2 := Nat.mul_le_mul_right (Wd k + 2) h.1
      show (listText (PyData.shownAll ps)).length ≤ 16 * (Wd k + 2) + 3
      omega
    | _ => simp [Gd] at h
theorem toPy_of {d : D} {S : Sto} {p : PyData} (h : toPyD d = some p) : toPy d S = some p := by
  cases d <;> first | exact h | simp [toPyD] at h
/-! ### isinstance -/
def isTupD : D → Bool
  | .tup _ => true
  | _ => false
def isIntD : D → Bool
  | .int _ => true
  | .bl _ => true
  | _ => false
def isBlD : D → Bool
  | .bl _ => true
  | _ => false
theorem isa_tup {d : D} {p : PyData} {S : Sto} (h : toPyD d = some p) : dIsa [d, .ob (.ty "tuple")] S = .ok (.bl (isTupD d)) S := by
  show (match toPy d S with | some p => _ | none => _) = _
  rw [toPy_of h]
  cases d <;> simp only [toPyD, Option.some.injEq, Option.map_eq_some_iff, reduceCtorEq] at h <;> first | (subst h; rfl) | (obtain ⟨_, _, rfl⟩ := h; rfl)
theorem isa_int {d : D} {p : PyData} {S : Sto} (h : toPyD d = some p) : dIsa [d, .ob (.ty "int")] S = .ok (.bl (isIntD d)) S := by
  show (match toPy d S with | some p => _ | none => _) = _
  rw [toPy_of h]
  cases d <;> simp only [toPyD, Option.some.injEq, Option.map_eq_some_iff, reduceCtorEq] at h <;> first | (subst h; rfl) | (obtain ⟨_, _, rfl⟩ := h; rfl)
theorem isa_bool {d : D} {p : PyData} {S : Sto} (h : toPyD d = some p) : dIsa [d, .ob (.ty "bool")] S = .ok (.bl (isBlD d)) S := by
  show (match toPy d S with | some p => _ | none => _) = _
  rw [toPy_of h]
  cases d <;> simp only [toPyD, Option.some.injEq, Option.map_eq_some_iff, reduceCtorEq] at h <;> first | (subst h; rfl) | (obtain ⟨_, _, rfl⟩ := h; rfl)

/-! ### the pen -/
def Pen (l : Nat) (S : Sto) : Prop := ∃ a b : Int, S[l]? = some (.lst [.int a, .int b])
theorem Pen.set {l : Nat} {S : Sto} {c d : Int} (h : Pen l S) : Pen l (S.set l (.lst [.int c, .int d])) := by
  obtain ⟨a, b, h⟩ := h
  exact ⟨c, d, List.getElem?_set_self (List.getElem?_eq_some_iff.mp h).1⟩
theorem Pen.push {l : Nat} {S : Sto} {c : C} (h : Pen l S) : Pen l (S ++ [c]) := by
  obtain ⟨a, b, h⟩ := h
  exact ⟨a, b, by rw [List.getElem?_append_left (List.getElem?_eq_some_iff.mp h).1]; exact h⟩
theorem Pen.lt {l : Nat} {S : Sto} (h : Pen l S) : l < S.length := by
  obtain ⟨a, b, h⟩ := h
  exact (List.getElem?_eq_some_iff.mp h).1
/-- the pen's cell alone may differ -/
structure Fr (l : Nat) (S S' : Sto) : Prop where
  len : S'.length = S.length
  eq : ∀ j, j ≠ l → S'[j]? = S[j]?
theorem Fr.refl (l : Nat) (S : Sto) : Fr l S S := ⟨rfl, fun _ _ => rfl⟩
theorem Fr.trans {l : Nat} {S S' S'' : Sto} (a : Fr l S S') (b : Fr l S' S'') : Fr l S S'' := ⟨b.len.trans a.len, fun j h => (b.eq j h).trans (a.eq j h)⟩
theorem Fr.set (l : Nat) (S : Sto) (c : C) : Fr l S (S.set l c) := ⟨by simp, fun j h => by rw [List.getElem?_set_ne (Ne.symm h)]⟩
theorem x_ixLoc {l : Nat} {S : Sto} {ds : List D} {i : Int} (h : S[l]? = some (.lst ds)) : dIx (.loc l) (.int i) S = ofO (atI ds i) S := by
  simp [dIx, seqR, listR, h]
end Z

/-! Z11: set(xs) of ints, sorted(set(xs)); a list made by + that will be changed. -/
namespace Z
open PySem PySem.Spec L2
section
variable {P : Program} {w : World} {A : Around} {E : Value → Shared → Prop} {s : Shared}
end
end Z

/-! Z12: sorted(set(xs)) of ints; a list made by + that will be changed. -/
namespace Z
open PySem PySem.Spec L2
/-! ### set(xs), sorted(set(xs)), of ints -/
section
variable {X : Cx}
end
section
variable {X : Cx} {W : WX} {e a b : Expr} {m ma mb : ME} {p p2 q pos : Pos}
theorem z_call0 {x : Str} {f : List D → Sto → R D} {k : Nat} {g : Addr} {fd : FuncData} {ps : List Str} (F : FnG X.prog X.w X.K X.mg X.base k g fd ps f) (hr : Room k X.A) (hgd : X.A.guards = some []) (hm : X.mg x = some (.ref g)) (hk : PySem.W.keepIn X.K (.ref g) = true) (hb : Binds X.K fd ps [])
    (hx : ∀ σ, PassesAt (L2.CX X.prog X.w) X σ (fun c d H => W c d σ H)) (hg : Gl X x := by rfl) (hdb : (x == ("__debug__" : Str)) = false := by decide) : PE X (.Call (.Name x p) [] [] pos) (Em X.K W (mCall f aNil)) := by
  constructor
  intro pins st σ H Q I h
  obtain ⟨ρ, τ, S, s, er, po⟩ := h
  apply wpAny_Call_Name_kw
  apply ld_glob I hg hm _ hdb
  exact PySem.W.callWith_K0 I.kIn hk (run_G (us := []) F hr hgd hb hx I .nil ⟨ρ, S, [], s, .nil, po⟩)
end
end Z

/-! Z13: more of the plain side, for all laws. -/
namespace Z
open PySem L2
theorem wp_eq {A : Type} {o : R A} {x : A} {S : Sto} (h : wpR o fun a S' => a = x ∧ S' = S) : o = .ok x S := by
  obtain ⟨a, S', e, rfl, rfl⟩ := wpR_get h
  exact e
def Has (d : D) : Prop := ∃ p, toPyD d = some p
theorem has_all : ∀ {ds : List D} {ps : List PyData}, toPyDs ds = some ps → ∀ d ∈ ds, Has d
  | [], _, _, d, h => by cases h
  | e :: ds, ps, q, d, h => by
    simp only [toPyDs] at q
    split at q
    · rename_i p qs h1 h2
      rcases List.mem_cons.mp h with rfl | h
      · exact ⟨_, h1⟩
      · exact has_all h2 d h
    · cases q
theorem has_tup {ds : List D} (h : Has (.tup ds)) : ∀ d ∈ ds, Has d := by
  obtain ⟨p, h⟩ := h
  simp only [toPyD, Option.map_eq_some_iff] at h
  obtain ⟨ps, h, _⟩ := h
  exact has_all h
def num (d : D) (lo hi : Int) : Bool := match d with | .int i => decide (lo ≤ i) && decide (i ≤ hi) | _ => false
theorem num_int {d : D} {lo hi : Int} (h : num d lo hi = true) : ∃ i, d = .int i ∧ lo ≤ i ∧ i ≤ hi := by
  cases d <;> simp [num] at h
  exact ⟨_, rfl, h.1, h.2⟩
def iv : D → Int
  | .int i => i
  | _ => 0
theorem three {ds : List D} (h : ds.length = 3) : ∃ a b c, ds = [a, b, c] := by
  match ds, h with
  | [a, b, c], _ => exact ⟨a, b, c, rfl⟩
theorem at0 {a : D} {r : List D} : atI (a :: r) 0 = some a := by simp [atI, ixN]
theorem atI_nat {ds : List D} {n : Nat} (h : n < ds.length) : atI ds (n : Int) = ds[n]? := by
  unfold atI ixN
  rw [if_pos (by omega), if_pos (by omega)]
  rfl
theorem at1 {a b : D} {r : List D} : atI (a :: b :: r) 1 = some b := atI_nat (n := 1) (by simp)
theorem bools_map (f : D → Bool) : ∀ ds : List D, boolsOf (ds.map fun d => D.bl (f d)) = some (ds.map f)
  | [] => rfl
  | d :: ds => by simp [boolsOf, bools_map f ds]
theorem all_map (f : D → Bool) (ds : List D) (S : Sto) : dAll [.lst (ds.map fun d => D.bl (f d))] S = .ok (.bl (ds.all f)) S := by
  simp [dAll, listR, bools_map]
theorem pick {ds : List D} {i : Int} {Q : D → Prop} (P : D → Prop) (h : ∀ d ∈ ds, P d) (h0 : 0 ≤ i) (h1 : i < ds.length) (k : ∀ d, P d → Q d) : ∃ a, atI ds i = some a ∧ Q a := by
  obtain ⟨d, e, m, _⟩ := atI_mem h0 h1
  exact ⟨d, e, k d (h d m)⟩
theorem hz : sizeLine = 16777216 := rfl
def GD (d : D) : Prop := Gd 4 d = true ∨ d = .dct [] []
theorem GD.has {d : D} (h : GD d) : Has d := by
  rcases h with h | rfl
  · obtain ⟨p, hp⟩ := Gd_py 4 d h
    exact ⟨p, hp.py⟩
  · exact ⟨_, rfl⟩
end Z

/-! Z14: enumerate of a tuple; xs.extend(ys). -/
namespace Z
open PySem PySem.Spec L2

section
variable {P : Program} {w : World} {A : Around} {E : Value → Shared → Prop} {s : Shared}
end
section
variable {X : Cx} {W : WX} {a : Expr} {ms : MA} {p pos : Pos}
end
section
variable {X : Cx} {W : WX} {o e : Expr} {m : ME} {ms : MA} {apos cpos : Pos}
end
end Z

/-! Z15: errors of own classes: raised, told by isinstance; defs called where an error is handled. -/
namespace Z
open PySem L2
open L2H (RoomH PinOk cxH inv_startH)

abbrev veT : List Value := [.type "ValueError", .type "Exception", .type "BaseException", .type "object"]
/-- what is to be known of an own class c that is raised; hd: the class that catches; ts: the classes that are asked for -/
def ownB (K : PySem.W.Frag) (hd : Str) (ts : List Str) (c : Str) : Bool := match clsAt K c with
  | .ref C => PySem.W.excIn K C veT "ValueError.__new__" && (PySem.W.keepIn K (.ref C) && (decide (PySem.W.typeIn K (.ref C) = some (.type "type")) &&
    (decide (PySem.W.findIn K (.ref C) "__getattribute__" = some (some (.builtin "BaseException.__getattribute__"))) && (decide (PySem.W.findIn K (.ref C) "__getattr__" = some none) && (decide (PySem.W.subIn K (.ref C) (.type "BaseException") = some true) && (PySem.W.hasDictIn K C &&
    (decide (PySem.W.findIn K (.ref C) "__class__" = some (some (.builtin "object.__class__"))) && (decide (PySem.W.specialIn K (.builtin "object.__class__") "__get__" = some (some (.builtin "getset_descriptor.__get__"))) && (decide (PySem.W.takesIn K (.builtin "object.__class__") = some true) && (decide (PySem.W.mroIn K C (.type "object") = some true) &&
    (decide (PySem.W.exmOne K (.ref C) (clsAt K hd) = some true) && (decide (PySem.W.kitOne K (.ref C) (.type "ValueError") = some true) && ts.all fun t => decide (PySem.W.kitOne K (.ref C) (clsAt K t) = some (decide (c = t))) && (match clsAt K t with
      | .ref _ => true
      | _ => false)))))))))))))
  | _ => false
structure Own (K : PySem.W.Frag) (hd : Str) (ts : List Str) (c : Str) (C : Addr) : Prop where
  cls : clsAt K c = .ref C
  exc : PySem.W.excIn K C veT "ValueError.__new__" = true
  keep : PySem.W.keepIn K (.ref C) = true
  ty : PySem.W.typeIn K (.ref C) = some (.type "type")
  sub : PySem.W.subIn K (.ref C) (.type "BaseException") = some true
  isE : ExcC K C
  hdl : PySem.W.exmOne K (.ref C) (clsAt K hd) = some true
  ve : PySem.W.kitOne K (.ref C) (.type "ValueError") = some true
  is : ∀ t ∈ ts, PySem.W.kitOne K (.ref C) (clsAt K t) = some (decide (c = t)) ∧ ∃ D, clsAt K t = .ref D
theorem ownB_ok {K : PySem.W.Frag} {hd : Str} {ts : List Str} {c : Str} (h : ownB K hd ts c = true) : ∃ C, Own K hd ts c C := by
  unfold ownB at h
  split at h
  · rename_i C e
    simp only [Bool.and_eq_true, decide_eq_true_eq, List.all_eq_true] at h
    obtain ⟨h1, h2, h3, h4, h5, h6, h7, h8, h9, h10, h11, h12, h13, h14⟩ := h
    refine ⟨C, e, h1, h2, h3, h6, ⟨h4, h5, h6, h7, h8, h9, h10, h11⟩, h12, h13, fun t ht => ⟨(h14 t ht).1, ?_⟩⟩
    have := (h14 t ht).2
    split at this
    · rename_i D e2; exact ⟨D, e2⟩
    · cases this
  · cases h

section
variable {X : Cx} {W : WX} {c m : Str} {j : Nat} {p p2 pos pos' : Pos}
def sRaise (c : Str) : MS := fun τ S => .ex τ c [] S
end

/-! ### isinstance of the error that the context bears -/
theorem call_isP {X : Cx} {a C : Addr} {oe : Obj} (E : ExcC X.K C) (hz : Zc (.ref C) none oe) (hf : ∃ vs, oe.data = .fields vs) (hp : (a, oe) ∈ X.pn) : CallR X (.builtin "isinstance") (rIsE X.K C a) := by
  intro pins s σ H xs us Q I r h
  obtain ⟨cv, cu, b, e0, hcv, e, q⟩ := h
  subst e0
  obtain _ | ⟨rx, rr⟩ := r
  obtain _ | ⟨rt, rr⟩ := rr
  cases rr
  cases rx
  cases hcv _ rt
  obtain ⟨vs, hv⟩ := hf
  have hget := (I.pin (a, oe) (List.mem_append_left _ hp)).1
  have J : PySem.W.InstAt s.heap a oe C none := ⟨hget, hz.1, by unfold PySem.W.notCls; rw [hv] <;> rfl, by rw [hz.2]; trivial⟩
  refine PySem.W.kia_one (PySem.W.handS_kitx_exc E.hg E.hk E.hs E.hd E.ha E.hn E.ht E.hm) I.kIn J e (fun z => nomatch z) fun tk => ?_
  exact ⟨.bl b, H, I.kept (t' := tk) fun _ _ z => z, rfl, q⟩
/-- isinstance(x, T): x in slot i is the error at a of the class c -/
noncomputable def mIsE (a : Addr) (i : Nat) (b : Bool) : ME := fun τ S => match τ[i]? with
  | some (some (.ob (.ref a'))) => if a' = a then .ok (.bl b) S else .bad
  | _ => .bad
section
variable {X : Cx} {W : WX} {a C : Addr} {oe : Obj} {i : Nat} {x t : Str} {p p1 p2 pos : Pos}
theorem isE_core {cv : V} {cu : Value} {b : Bool} (hm : X.mg "isinstance" = none) (E : ExcC X.K C) (hz : Zc (.ref C) none oe) (hf : ∃ vs, oe.data = .fields vs) (hp : (a, oe) ∈ X.pn) (hv : PE X (.Name x p1) (tVar i)) (ht : PE X (.Name t p2) (tC cv)) (hcv : ∀ u, RelV cv u → u = cu) (hk : PySem.W.kitOne X.K (.ref C) cu = some b) (hg : Gl X "isinstance") :
    PE X (.Call (.Name "isinstance" p) [.Name x p1, .Name t p2] [] pos) (Em X.K W (mIsE a i b)) :=
  PE_imp (pe_callB (call_isP E hz hf hp) hg hm PyProof.Rows.boot_isinstance (pa_cons hv (pa_cons ht pa_nil))) fun σ H Q ⟨ρ, τ, S, s, r, q⟩ => by
    unfold mIsE at q
    split at q
    · rename_i a' e
      split at q
      · rename_i ea
        subst ea
        obtain ⟨v, h1, h2⟩ := r.2 i _ e
        cases h2
        exact ⟨_, h1, cv, cu, b, rfl, hcv, hk, q.here s (.bl b)⟩
      · exact q.elim
    · exact q.elim
/-- the class an own one -/
theorem z_isE {c hd : Str} {ts : List Str} (O : Own X.K hd ts c C) (ht : t ∈ ts) (gt : X.mg t = some (clsAt X.K t)) (hm : X.mg "isinstance" = none) (hz : Zc (.ref C) none oe) (hf : ∃ vs, oe.data = .fields vs) (hp : (a, oe) ∈ X.pn) (hv : PE X (.Name x p1) (tVar i)) (hg : Gl X "isinstance" := by rfl) (hgt : Gl X t := by rfl) (hdb : (t == ("__debug__" : Str)) = false := by decide) :
    PE X (.Call (.Name "isinstance" p) [.Name x p1, .Name t p2] [] pos) (Em X.K W (mIsE a i (decide (c = t)))) := by
  obtain ⟨h1, D, h2⟩ := O.is t ht
  refine isE_core (cv := .ref D) (cu := .ref D) hm O.isE hz hf hp hv (pe_glob hgt gt (by rw [h2]; exact rfl) hdb) (fun u ru => ?_) (by rw [← h2]; exact h1) hg
  cases ru; rfl
/-- ValueError -/
theorem z_isVE {c hd : Str} {ts : List Str} (O : Own X.K hd ts c C) (hn : X.mg "ValueError" = none) (hm : X.mg "isinstance" = none) (hz : Zc (.ref C) none oe) (hf : ∃ vs, oe.data = .fields vs) (hp : (a, oe) ∈ X.pn) (hv : PE X (.Name x p1) (tVar i)) (hg : Gl X "isinstance" := by rfl) (hgt : Gl X "ValueError" := by rfl) :
    PE X (.Call (.Name "isinstance" p) [.Name x p1, .Name "ValueError" p2] [] pos) (Em X.K W (mIsE a i true)) := by
  refine isE_core (cv := .ty "ValueError") (cu := .type "ValueError") hm O.isE hz hf hp hv (pe_bltn hgt hn (u := .type "ValueError") (by rfl) rfl (by decide)) (fun u ru => ?_) O.ve hg
  cases ru; rfl
end

/-! ### a def called where an error is handled -/
structure FnE (P : Program) (w : World) (K : PySem.W.Frag) (mg : Str → Option Value) (base : Heap) (k : Nat) (g : Addr) (fd : FuncData) (ps : List Str) (a C : Addr) (f : List D → Sto → R D) : Prop where
  len : ∀ (ds : List D) (S : Sto), f ds S ≠ .bad → ds.length = ps.length
  run : ∀ (A : Around) (frs : List Env) (st : Shared) (H : Hp) (ar : Args) (us : List Value) (vs : List V) (Q : VK) (E : XK) (oe : Obj), RoomH k A → PinOk frs H st (a, oe) → Zc (.ref C) none oe → (∃ vs, oe.data = .fields vs) → Env0 P w K mg base A frs st H →
    BindsTo st fd ar (ps.zip us) → Vals vs us → Sf K f vs H Q E → codeAny (model P w) A (.call (.ref g) ar) (L2.CR (L2.CX P w) frs P w H st Q E) st
section
variable {P : Program} {w : World} {K : PySem.W.Frag} {mg : Str → Option Value} {base : Heap}
abbrev hotCx (P : Program) (w : World) (K : PySem.W.Frag) (mg : Str → Option Value) (base : Heap) (N : List Str) (qual : Str) (st : Stmt) (g : Addr) (cdv : Value) (A : Around) (fs : List Env) (s : Shared) (H : Hp) (E : XK) (p : Addr × Obj) : Cx := cxH (L2.CX P w) P w K mg base N qual (defScope st) g cdv A fs s H E p
theorem fnE_of {x qual : Str} {st : Stmt} {g a C : Addr} {fd : FuncData} {N ps : List Str} {k n : Nat} {b : MS} (F : Fun K x qual st g fd) (Sc : FnScope N ps (defScope st)) (hn : ps.length = n)
    (hb : ∀ (cdv : Value) (A : Around) (fs : List Env) (s : Shared) (H : Hp) (E : XK) (oe : Obj), RoomH k (hotCx P w K mg base N qual st g cdv A fs s H E (a, oe)).A → Zc (.ref C) none oe → (∃ vs, oe.data = .fields vs) →
      PSs (hotCx P w K mg base N qual st g cdv A fs s H E (a, oe)) (defBody st) (Sm K (fun c d _ H' => E c d H') b)) :
    FnE P w K mg base (k + 1) g fd ps a C (runD n N.length b) := by
  refine ⟨fun ds S h => ?_, ?_⟩
  · unfold runD at h
    split at h
    · omega
    · exact absurd rfl h
  intro A fs s H ar us vs Q E oe hr hpin hz hf e0 hbd hv hsf
  obtain ⟨oc, od, kV, doc, pm, an, cdv, ct, osl, rfl, lk, hcd⟩ := F.ex
  obtain ⟨ρ, S, ds, sr, dv, po⟩ := hsf
  unfold runD at po
  split at po
  case isFalse => exact po.elim
  rename_i hlen
  have hlv : vs.length = ps.length := by rw [dv.length, hn]; exact hlen
  have KX : K.In s.heap := e0.mod.kin.keeps fun b o e => (e0.bs b o e).1
  have lim : s.heap.NoLimit := e0.mod.nolimit.keeps fun b o e => (e0.bs b o e).1
  have hkind : ∀ y ∈ ps.zip us, (defScope st).names.lookup y.1 = some .local ∨ ((defScope st).names.lookup y.1 = some .cell ∧ ((cellsFrom (s.heap.objs.size + 1) (defScope st).names []).lookup y.1).isSome = true) := by
    rintro ⟨nm, u⟩ hy
    rcases Sc.par nm (List.of_mem_zip hy).1 with q | q
    · exact .inl q
    · exact .inr ⟨q, PySem.W.cellsFrom_some _ _ _ (.inl q)⟩
  refine codeAny_call_function hr.depth (KX _ _ lk) rfl Sc.co Sc.gen rfl (PySem.W.codeRec_of KX hcd) (hbd _ _ _ _ ?_)
  refine wpAny_newFunctionEnv_cells Sc.kind hkind ?_
  intro env he s1 ic
  subst he
  refine ⟨lim.keeps ic.toInCall.keep, codeAny_func ?_⟩
  have body := hb cdv A fs s H E oe (hr.deeper _) hz hf
  have I := inv_startH (CX := L2.CX P w) (E := E) Sc hpin e0 hlv hv ic
  refine wpAny_mono (body.run [] s1 (L2.start N vs) H { nx := fun _ H' => Q .non H', rt := Q } I ?_) ?_ fun _ _ z => z
  · refine ⟨ρ, _, S, sr, er_start dv, ?_⟩
    cases q : b (ds.map some ++ List.replicate (N.length - ds.length) none) S with
    | rt d S' => rw [q] at po; exact po
    | nx τ' S' => rw [q] at po; exact fun ρ' σ' H' e' s' _ => po ρ' H' .non e' s' .non
    | ex τ' c fs2 S' => rw [q] at po; exact fun ρ' σ' H' dd e' s' _ x' => po ρ' H' dd e' s' x'
    | bk τ' S' => rw [q] at po; exact po.elim
    | ct τ' S' => rw [q] at po; exact po.elim
    | bad => rw [q] at po; exact po.elim
  · intro fl s' hs
    have fin : ∀ {σ' : St} {H' : Hp} {v : V} {u : Value}, Inv (hotCx P w K mg base N qual st g cdv A fs s H E (a, oe)) [] σ' H' s' → RelV v u → Q v H' → CE fs P w H s Q u s' :=
      fun {σ' H' v u} J rv q => ⟨v, H', J.os, J.bare, J.base, J.hok, rv, q⟩
    match fl, hs with
    | .ret u, ⟨v, σ', H', J, rv, q⟩ => exact fin J rv q
    | .next, ⟨σ', H', J, q⟩ => exact fin (v := .non) (u := .none) J rfl q
    | .brk, ⟨_, _, _, q⟩ => exact q.elim
    | .cont, ⟨_, _, _, q⟩ => exact q.elim
end
section
variable {X : Cx} {W : WX} {a C : Addr} {oe : Obj} {f : List D → Sto → R D} {e : Expr} {es : List Expr} {mas : MA} {x : Str} {p pos : Pos}
/-- such a call; what it would let out isn't let out -/
theorem z_callE {k : Nat} {g : Addr} {fd : FuncData} {ps : List Str} (F : FnE X.prog X.w X.K X.mg X.base k g fd ps a C f) (hz : Zc (.ref C) none oe) (hf : ∃ vs, oe.data = .fields vs) (hp : (a, oe) ∈ X.pn) (hr : RoomH k X.A) (hm : X.mg x = some (.ref g)) (hk : PySem.W.keepIn X.K (.ref g) = true) (hb : Binds X.K fd ps [])
    (ha : PA X (e :: es) (Am X.K W0 mas)) (hg : Gl X x := by rfl) (hdb : (x == ("__debug__" : Str)) = false := by decide)
    (he : starEach (e :: es) X.env = (false, eval e X.env) :: starEach es X.env := by rfl) (hpl : (backTo pos (starEach es X.env)).any (·.1) = false := by rfl) : PE X (.Call (.Name x p) (e :: es) [] pos) (Em X.K W0 (mCall f mas)) := by
  constructor
  intro pins st σ H Q I h
  obtain ⟨ρ, τ, S, s, er, po⟩ := h
  have args := ha.run pos pins st σ H (fun vs H1 => Sf X.K f vs H1 Q (fun _ _ _ => False)) I (Am_bind s er po fun ρ1 H1 S1 vs ds s1 e1 x1 v1 p1 => ⟨ρ1, S1, ds, s1, v1, p1⟩)
  apply wpAny_Call_Name_kw
  apply ld_glob I hg hm _ hdb
  apply PySem.W.callWith_K (h₀ := X.base) I.ok.mod.kin hk _ he hpl
  apply thn args
  rintro us s1 ⟨vs, H1, I1, r, q⟩
  refine ⟨I1.kIn, ?_⟩
  have P1 := I1.pin (a, oe) (List.mem_append_left _ hp)
  have hpin : PinOk X.stack H1 s1 (a, oe) := ⟨P1.1, P1.2.1, fun hm => (List.mem_cons.mp (I1.stkSub _ hm)).elim P1.2.2.1 P1.2.2.2.1, P1.2.2.2.2⟩
  obtain ⟨ρ', S', ds', s', v', p'⟩ := q
  have hl : (us ++ []).length = ps.length := by rw [List.append_nil, ← r.length, v'.length]; exact F.len ds' S' p'.nbad
  have hb' := hb s1 us I1.kIn hl
  rw [List.append_nil] at hb'
  have main := F.run X.A X.stack s1 H1 _ us vs Q _ oe hr hpin hz hf I1.env0 hb' r ⟨ρ', S', ds', s', v', p'⟩
  show wpAny _ _ (call (.ref g) us) _ _ _
  refine wpAny_call (codeAny_mono main ?_)
  intro res st' q2
  match res, q2 with
  | .error e, q2 =>
    obtain ⟨_, _, _, _, _, _, _, _, _, _, _, _, z⟩ := q2
    exact z.elim
  | .ok (.ret u), q2 => exact I1.after q2
  | .ok .next, q2 => exact False.elim q2
  | .ok .brk, q2 => exact False.elim q2
  | .ok .cont, q2 => exact False.elim q2
end
end Z

/-! Z16: tables of code objects, defs that need no guards, lambdas handed to a def that tells what they raise, the law's end with tables. -/
namespace Z
open PySem L2
open L2H (RoomH PinOk cxH inv_startH roomH_of)

/-! ### tables -/
def getTab : C → Option (Addr × Str)
  | .tab P q => some (P, q)
  | _ => none
def tabsOf (S : Sto) : List (Addr × Str) := S.filterMap getTab
theorem mem_tabs {S : Sto} {p : Addr × Str} : p ∈ tabsOf S ↔ ∃ l : Nat, S[l]? = some (C.tab p.1 p.2) := by
  unfold tabsOf
  rw [List.mem_filterMap]
  constructor
  · rintro ⟨c, hc, e⟩
    obtain ⟨l, hl⟩ := List.mem_iff_getElem?.mp hc
    refine ⟨l, hl.trans ?_⟩
    cases c <;> simp only [getTab, Option.some.injEq, reduceCtorEq] at e
    subst e; rfl
  · rintro ⟨l, hl⟩
    exact ⟨_, List.mem_of_getElem? hl, rfl⟩
section
variable {K : PySem.W.Frag} {ρ : Pl} {S : Sto} {H H1 : Hp}
theorem CR.nh {a : Addr} {c : C} (h : CR K ρ H a c) : (∃ o, H a = some o ∧ NH o) ∨ ∃ q, c = .tab a q := by
  cases c with
  | lst ds => obtain ⟨xs, h, _⟩ := h; exact .inl ⟨_, h, by exact ⟨(by intro ps z; cases z), (by intro c q z; unfold LamX.CodeO at z; cases z)⟩⟩
  | dK lk kvs =>
    cases lk
    · obtain ⟨ws, h, _⟩ := h; exact .inl ⟨_, h, by exact ⟨(by intro ps z; cases z), (by intro c q z; unfold LamX.CodeO at z; cases z)⟩⟩
    · obtain ⟨o, ws, h, _⟩ := h; exact .inl ⟨_, h, by exact ⟨(by intro ps z; cases z), (by intro c q z; unfold LamX.CodeO at z; cases z)⟩⟩
  | dT lk kvs =>
    cases lk
    · obtain ⟨ws, h, _⟩ := h; exact .inl ⟨_, h, by exact ⟨(by intro ps z; cases z), (by intro c q z; unfold LamX.CodeO at z; cases z)⟩⟩
    · obtain ⟨o, ws, h, _⟩ := h; exact .inl ⟨_, h, by exact ⟨(by intro ps z; cases z), (by intro c q z; unfold LamX.CodeO at z; cases z)⟩⟩
  | ins cc fs => obtain ⟨C, dx, ws, _, h, _⟩ := h; exact .inl ⟨_, h, by exact ⟨(by intro ps z; cases z), (by intro c q z; unfold LamX.CodeO at z; cases z)⟩⟩
  | tab P q => obtain ⟨rfl, _⟩ := h; exact .inr ⟨q, rfl⟩
theorem SR.tabs (s : SR K ρ S H) : LamX.Tabs (tabsOf S) H := fun p hp => by
  obtain ⟨l, e⟩ := mem_tabs.mp hp
  obtain ⟨a, _, e2, ps, h1, h2, h3⟩ := s.cell l _ e
  exact ⟨ps, h1, h2, fun pos cv z => let ⟨c, a1, a2, _⟩ := h3 pos cv z; ⟨c, a1, a2⟩⟩
theorem ext_tabs (e : LamX.ExtN H H1) : Ext ρ H ρ H1 := ⟨⟨[], by simp⟩, fun _ h => h, fun _ h => .inl h, fun _ h => .inl h, fun b o h n _ => e b o h n, fun b f o h => by
  rcases Classical.em (NT o) with n | n
  · exact f o (e b o h n)
  · exact Classical.byContradiction fun z => n fun ps q => z ⟨ps, q⟩, fun b o u h => e b _ h (by intro ps z; cases z)⟩
theorem SR.retab (s : SR K ρ S H) (e : LamX.ExtN H H1) (t : LamX.Tabs (tabsOf S) H1) : SR K ρ S H1 := by
  have x : Ext ρ H ρ H1 := ext_tabs e
  refine ⟨s.len, s.nd, fun a ha => let ⟨h1, o, h2, n⟩ := s.hd a ha; ⟨h1, o, e a o h2 n.1, n⟩, fun l c q => ?_⟩
  obtain ⟨a, h1, h2⟩ := s.cell l c q
  refine ⟨a, h1, ?_⟩
  rcases h2.nh with ⟨o, ho, n⟩ | ⟨q', rfl⟩
  · exact h2.mono x ((e a o ho n.1).trans ho.symm)
  · refine ⟨rfl, ?_⟩
    obtain ⟨ps, t1, t2, t3⟩ := t (a, q') (mem_tabs.mpr ⟨l, q⟩)
    refine ⟨ps, t1, t2, fun pos cv z => ?_⟩
    obtain ⟨c, c1, c2⟩ := t3 pos cv z
    have no : ∀ o, H c = some o → NH o → False := fun o ho n => by
      have := e c o ho n.1
      rw [c2] at this
      exact n.2 c q' (Option.some.inj this).symm
    refine ⟨c, c1, c2, fun m => ?_⟩
    rcases m with m | m
    · obtain ⟨l2, hl2, e2⟩ := List.getElem_of_mem m
      have hl3 : l2 < S.length := by rw [← s.len]; exact hl2
      obtain ⟨b, b1, b2⟩ := s.cell l2 S[l2] (by simp [hl3])
      have : b = c := by rw [List.getElem?_eq_getElem hl2, e2] at b1; exact (Option.some.inj b1).symm
      subst this
      rcases b2.nh with ⟨o, ho, n⟩ | ⟨q2, e3⟩
      · exact no o ho n
      · obtain ⟨ps2, u1, _⟩ := t (b, q2) (mem_tabs.mpr ⟨l2, by rw [← e3]; simp [hl3]⟩)
        rw [c2] at u1
        exact nt_code _ (Option.some.inj u1)
    · obtain ⟨_, o, ho, n⟩ := s.hd c m
      exact no o ho n
end

/-! ### defs that need no guards -/
structure FnK (P : Program) (w : World) (K : PySem.W.Frag) (mg : Str → Option Value) (base : Heap) (k : Nat) (g : Addr) (fd : FuncData) (ps : List Str) (f : List D → Sto → R D) : Prop where
  len : ∀ (ds : List D) (S : Sto), f ds S ≠ .bad → ds.length = ps.length
  run : ∀ (A : Around) (frs : List Env) (st : Shared) (H : Hp) (ar : Args) (us : List Value) (vs : List V) (Q : VK) (E : XK), Room k A → Env0 P w K mg base A frs st H →
    BindsTo st fd ar (ps.zip us) → Vals vs us → Sf K f vs H Q E → codeAny (model P w) A (.call (.ref g) ar) (L2.CR (L2.CX P w) frs P w H st Q E) st
section
variable {P : Program} {w : World} {K : PySem.W.Frag} {mg : Str → Option Value} {base : Heap}
/-- a def by its body; gd: what is asked of what stands around -/
theorem run_body {x qual : Str} {st : Stmt} {g : Addr} {fd : FuncData} {N ps : List Str} {k n : Nat} {b : MS} {gd : Around → Prop} (F : Fun K x qual st g fd) (Sc : FnScope N ps (defScope st)) (hn : ps.length = n)
    (hb : ∀ (cdv : Value) (A : Around) (fs : List Env) (s : Shared) (H : Hp) (E : XK), fd.code = cdv → Room k (bodyCx P w K mg base N qual st g cdv A fs s H E).A → gd A →
      PSs (bodyCx P w K mg base N qual st g cdv A fs s H E) (defBody st) (Sm K (fun c d _ H' => E c d H') b))
    (A : Around) (fs : List Env) (s : Shared) (H : Hp) (ar : Args) (us : List Value) (vs : List V) (Q : VK) (E : XK) (hr : Room (k + 1) A) (hg : gd A) (e0 : Env0 P w K mg base A fs s H)
    (hbd : BindsTo s fd ar (ps.zip us)) (hv : Vals vs us) (hsf : Sf K (runD n N.length b) vs H Q E) : codeAny (model P w) A (.call (.ref g) ar) (L2.CR (L2.CX P w) fs P w H s Q E) s := by
  obtain ⟨oc, od, kV, doc, pm, an, cdv, ct, osl, rfl, lk, hcd⟩ := F.ex
  obtain ⟨ρ, S, ds, sr, dv, po⟩ := hsf
  unfold runD at po
  split at po
  case isFalse => exact po.elim
  rename_i hlen
  have hlv : vs.length = ps.length := by rw [dv.length, hn]; exact hlen
  have KX : K.In s.heap := e0.mod.kin.keeps fun b o e => (e0.bs b o e).1
  have lim : s.heap.NoLimit := e0.mod.nolimit.keeps fun b o e => (e0.bs b o e).1
  have hkind : ∀ y ∈ ps.zip us, (defScope st).names.lookup y.1 = some .local ∨ ((defScope st).names.lookup y.1 = some .cell ∧ ((cellsFrom (s.heap.objs.size + 1) (defScope st).names []).lookup y.1).isSome = true) := by
    rintro ⟨nm, u⟩ hy
    rcases Sc.par nm (List.of_mem_zip hy).1 with q | q
    · exact .inl q
    · exact .inr ⟨q, PySem.W.cellsFrom_some _ _ _ (.inl q)⟩
  refine codeAny_call_function hr.depth (KX _ _ lk) rfl Sc.co Sc.gen rfl (PySem.W.codeRec_of KX hcd) (hbd _ _ _ _ ?_)
  refine wpAny_newFunctionEnv_cells Sc.kind hkind ?_
  intro env he s1 ic
  subst he
  refine ⟨lim.keeps ic.toInCall.keep, codeAny_func ?_⟩
  have body := hb cdv A fs s H E rfl (hr.deeper _) hg
  have I := inv_start (CX := L2.CX P w) (E := E) Sc hr.hd e0 hlv hv ic
  refine wpAny_mono (body.run [] s1 (L2.start N vs) H { nx := fun _ H' => Q .non H', rt := Q } I ?_) ?_ fun _ _ z => z
  · refine ⟨ρ, _, S, sr, er_start dv, ?_⟩
    cases q : b (ds.map some ++ List.replicate (N.length - ds.length) none) S with
    | rt d S' => rw [q] at po; exact po
    | nx τ' S' => rw [q] at po; exact fun ρ' σ' H' e' s' _ => po ρ' H' .non e' s' .non
    | ex τ' c fs2 S' => rw [q] at po; exact fun ρ' σ' H' dd e' s' _ x' => po ρ' H' dd e' s' x'
    | bk τ' S' => rw [q] at po; exact po.elim
    | ct τ' S' => rw [q] at po; exact po.elim
    | bad => rw [q] at po; exact po.elim
  · intro fl s' hs
    have fin : ∀ {σ' : St} {H' : Hp} {v : V} {u : Value}, Inv (bodyCx P w K mg base N qual st g cdv A fs s H E) [] σ' H' s' → RelV v u → Q v H' → CE fs P w H s Q u s' :=
      fun {σ' H' v u} J rv q => ⟨v, H', J.os, J.bare, J.base, J.hok, rv, q⟩
    match fl, hs with
    | .ret u, ⟨v, σ', H', J, rv, q⟩ => exact fin J rv q
    | .next, ⟨σ', H', J, q⟩ => exact fin (v := .non) (u := .none) J rfl q
    | .brk, ⟨_, _, _, q⟩ => exact q.elim
    | .cont, ⟨_, _, _, q⟩ => exact q.elim
theorem runD_len {n N : Nat} {b : MS} {ps : List Str} (hn : ps.length = n) (ds : List D) (S : Sto) (h : runD n N b ds S ≠ .bad) : ds.length = ps.length := by
  unfold runD at h
  split at h
  · omega
  · exact absurd rfl h
theorem fnK_of {x qual : Str} {st : Stmt} {g : Addr} {fd : FuncData} {N ps : List Str} {k n : Nat} {b : MS} (F : Fun K x qual st g fd) (Sc : FnScope N ps (defScope st)) (hn : ps.length = n)
    (hb : ∀ (cdv : Value) (A : Around) (fs : List Env) (s : Shared) (H : Hp) (E : XK), Room k (bodyCx P w K mg base N qual st g cdv A fs s H E).A →
      PSs (bodyCx P w K mg base N qual st g cdv A fs s H E) (defBody st) (Sm K (fun c d _ H' => E c d H') b)) :
    FnK P w K mg base (k + 1) g fd ps (runD n N.length b) :=
  ⟨runD_len hn, fun A fs s H ar us vs Q E hr e0 hbd hv hsf => run_body (gd := fun _ => True) F Sc hn (fun cdv A fs s H E _ hr _ => hb cdv A fs s H E hr) A fs s H ar us vs Q E hr trivial e0 hbd hv hsf⟩
/-- of a def that makes lambdas: its code object is told -/
theorem fnG_ofC {x qual : Str} {st : Stmt} {g c : Addr} {fd : FuncData} {N ps : List Str} {k n : Nat} {b : MS} (F : Fun K x qual st g fd) (hfd : fd.code = .ref c) (Sc : FnScope N ps (defScope st)) (hn : ps.length = n)
    (hb : ∀ (A : Around) (fs : List Env) (s : Shared) (H : Hp) (E : XK), Room k (bodyCx P w K mg base N qual st g (.ref c) A fs s H E).A → (bodyCx P w K mg base N qual st g (.ref c) A fs s H E).A.guards = some [] →
      PSs (bodyCx P w K mg base N qual st g (.ref c) A fs s H E) (defBody st) (Sm K (fun c d _ H' => E c d H') b)) :
    FnG P w K mg base (k + 1) g fd ps (runD n N.length b) :=
  ⟨runD_len hn, fun A fs s H ar us vs Q E hr hg e0 hbd hv hsf => run_body (gd := fun A => A.guards = some []) F Sc hn (fun cdv A fs s H E hc hr hg => by
    rw [hfd] at hc; subst hc
    exact hb A fs s H E hr hg) A fs s H ar us vs Q E hr hg e0 hbd hv hsf⟩
end
section
variable {X : Cx} {W : WX} {f : List D → Sto → R D} {e : Expr} {es : List Expr} {mas : MA} {x : Str} {p pos : Pos}
theorem run_K {pins : List (Addr × Obj)} {st : Shared} {σ : St} {H : Hp} {Q : VK} {us : List Value} {vs : List V} {k : Nat} {g : Addr} {fd : FuncData} {ps : List Str} (F : FnK X.prog X.w X.K X.mg X.base k g fd ps f) (hr : Room k X.A) (hb : Binds X.K fd ps [])
    (hx : ∀ σ, PassesAt (L2.CX X.prog X.w) X σ (fun c d H => W c d σ H)) (I : Inv X pins σ H st) (r : Vals vs us) (h : Sf X.K f vs H Q (fun c d H => W c d σ H)) : wpAny (model X.prog X.w) X.A (call (.ref g) us) (EP X pins σ Q) X.xe st := by
  have hl : (us ++ []).length = ps.length := by
    obtain ⟨ρ, S, ds, s, v, q⟩ := h
    rw [List.append_nil, ← r.length, v.length]; exact F.len ds S q.nbad
  have hb' := hb st us I.kIn hl
  rw [List.append_nil] at hb'
  refine wpAny_call (codeAny_mono (F.run X.A X.stack st H _ us vs Q _ hr I.env0 hb' r h) ?_)
  intro res st' q
  match res, q with
  | .error e, q => exact hx σ pins H st e st' I q
  | .ok (.ret u), q => exact I.after q
  | .ok .next, q => exact False.elim q
  | .ok .brk, q => exact False.elim q
  | .ok .cont, q => exact False.elim q
theorem z_callK {k : Nat} {g : Addr} {fd : FuncData} {ps : List Str} (F : FnK X.prog X.w X.K X.mg X.base k g fd ps f) (hr : Room k X.A) (hm : X.mg x = some (.ref g)) (hk : PySem.W.keepIn X.K (.ref g) = true) (hb : Binds X.K fd ps [])
    (hx : ∀ σ, PassesAt (L2.CX X.prog X.w) X σ (fun c d H => W c d σ H)) (ha : PA X (e :: es) (Am X.K W mas)) (hg : Gl X x := by rfl) (hdb : (x == ("__debug__" : Str)) = false := by decide)
    (he : starEach (e :: es) X.env = (false, eval e X.env) :: starEach es X.env := by rfl) (hpl : (backTo pos (starEach es X.env)).any (·.1) = false := by rfl) : PE X (.Call (.Name x p) (e :: es) [] pos) (Em X.K W (mCall f mas)) := by
  constructor
  intro pins st σ H Q I h
  obtain ⟨ρ, τ, S, s, er, po⟩ := h
  have args := ha.run pos pins st σ H (fun vs H1 => Sf X.K f vs H1 Q (fun c d H => W c d σ H)) I (Am_bind s er po fun ρ1 H1 S1 vs ds s1 e1 x1 v1 p1 => ⟨ρ1, S1, ds, s1, v1, p1⟩)
  apply wpAny_Call_Name_kw
  apply ld_glob I hg hm _ hdb
  apply PySem.W.callWith_K (h₀ := X.base) I.ok.mod.kin hk _ he hpl
  apply thn args
  rintro us s1 ⟨vs, H1, I1, r, q⟩
  exact ⟨I1.kIn, run_K F hr hb hx I1 r q⟩
end

/-! ### x(lambda: body), x tells what the body gives or raises -/
noncomputable def mWord (Ts : List (Addr × Str)) (told : Str) (kf : Str → Option D) (m : ME) : ME := fun τ S => if tabsOf S = Ts then (match m τ S with
  | .ok d S1 => .ok (.tup [.str told, d]) S1
  | .ex c [] S1 => (match kf c with
    | some dd => .ok dd S1
    | none => .bad)
  | _ => .bad) else .bad
/-- what the except suite makes -/
def ECh (K : PySem.W.Frag) (kf : Str → Option D) (Q : VK) : XK := fun cls d H' => ∃ c dd, kf c = some dd ∧ cls = clsAt K c ∧ d = none ∧ ∃ ρ S, SR K ρ S H' ∧ ∀ ρ' H'' v, Ext ρ H' ρ' H'' → SR K ρ' S H'' → VR K ρ' H'' v dd → Q v H''
def QTold (told : Str) (Q : VK) : VK := fun v H1 => 2 ≤ sizeLine ∧ ∀ p, H1 p = none → Q (.ref p) (upd H1 p (.tup [.str told, v]))
/-- what the except suite's body does: for each class that may come -/
def SuiteOk (Y : Cx) (kf : Str → Option D) (be : Str) (suite : List Stmt) : Prop := ∀ c dd, kf c = some dd → ∃ C, clsAt Y.K c = .ref C ∧ PySem.W.exmOne Y.K (.ref C) (clsAt Y.K be) = some true ∧
  ∀ (a : Addr) (oe : Obj) (pn : List (Addr × Obj)), Zc (.ref C) none oe → (∃ vs, oe.data = .fields vs) → ∃ m : MS, PSs (Y.suite a ((a, oe) :: pn)) suite (Sm Y.K W0 m) ∧ ∀ S, m [none, some (.ob (.ref a))] S = .rt dd S
end Z

/-! Z17: a lambda called by a def that tells what it raises; the law's end with tables. -/
namespace Z
open PySem L2
open L2H (RoomH PinOk cxH inv_startH roomH_of)

section
variable {X : Cx} {W : WX}
end

/-! ### the law's end, with tables -/
section
open PySem.Spec PyProof.Rows
/-- the heap at the call: the script, and the tables, empty -/
def seeT (a : Addr) (o : Option HO) (Ps : List Addr) : Hp := fun b => if b = a then o else if b ∈ Ps then some (.tbl #[]) else none
theorem seeT_some {a b : Addr} {o : Option HO} {Ps : List Addr} {u : HO} (h : seeT a o Ps b = some u) : (b = a ∧ o = some u) ∨ (b ≠ a ∧ b ∈ Ps ∧ u = .tbl #[]) := by
  unfold seeT at h
  split at h
  · exact .inl ⟨by assumption, h⟩
  · split at h
    · exact .inr ⟨by assumption, by assumption, (Option.some.inj h).symm⟩
    · cases h
abbrev tabSto (Ts : List (Addr × Str)) : Sto := Ts.map fun p => C.tab p.1 p.2
/-- what is known of the tables at the call -/
structure TabsAt (K : PySem.W.Frag) (h : Heap) (cs : List (Addr × Addr)) (Ts : List (Addr × Str)) : Prop where
  nd : (Ts.map (·.1)).Nodup
  mem : ∀ p ∈ Ts, ∃ q ∈ cs, q.2 = p.1
  mem2 : ∀ q ∈ cs, q.2 ∈ Ts.map (·.1)
  emp : ∀ q ∈ cs, h.get? q.2 = some { cls := .none, data := .fields #[] }
  out : ∀ q ∈ cs, K.lookup q.2 = none
  code : ∀ q ∈ cs, PySem.W.CodeHd h q.1 q.2
theorem sr_tabs {K : PySem.W.Frag} {a : Addr} {o : Option HO} {Ts : List (Addr × Str)} (nd : (Ts.map (·.1)).Nodup) (ha : a ∉ Ts.map (·.1)) : SR K ⟨Ts.map (·.1), []⟩ (tabSto Ts) (seeT a o (Ts.map (·.1))) := by
  refine ⟨by simp, nd, fun b hb => (nomatch hb), fun l c e => ?_⟩
  simp only [List.getElem?_map] at e
  cases q : Ts[l]? with
  | none => rw [q] at e; cases e
  | some p =>
    rw [q] at e
    simp only [Option.map_some, Option.some.injEq] at e
    subst e
    have hm : p.1 ∈ Ts.map (·.1) := List.mem_map.mpr ⟨p, List.mem_of_getElem? q, rfl⟩
    refine ⟨p.1, by simp [q], rfl, #[], ?_, trivial, fun pos cv z => ?_⟩
    · have : p.1 ≠ a := by rintro rfl; exact ha hm
      unfold seeT
      rw [if_neg this, if_pos hm]
    · have z' : codeAmong pos [] = some cv := z
      simp [codeAmong] at z'
theorem law_runsT {P : Program} {w : World} {K : PySem.W.Frag} {mg mb : Str → Option Value} {k : Nat} {fa a : Addr} {fd : FuncData} {x : Str} {f : List D → Sto → R D} {st : Shared} {vs : List Value} {ns : List Int} {S' : Sto} {cs : List (Addr × Addr)} {Ts : List (Addr × Str)}
    (KX : K.In st.heap) (g1 : st.heap.Ns mainGlobals mg) (g2 : st.heap.Ns builtinsNs mb) (g3 : ∀ y : Str, y ≠ "__name__" → mb y = bootBuiltins y) (g4 : st.heap.NoLimit) (g5 : st.gens = #[]) (TA : TabsAt K st.heap cs Ts)
    (hbm : ∃ (bm : Addr) (ob : Obj), mg "__builtins__" = some (.ref bm) ∧ bm ≠ builtinsNs ∧ st.heap.get? bm = some ob ∧ ob.cls = .type "module" ∧ ob.dict = some builtinsNs ∧ ob.data = .plain)
    (ha : st.heap.get? a = some { cls := .type "list", data := .seq vs.toArray }) (hi : IntsAre vs ns) (hl : ns.length ≤ sizeLine) (hr : Room k callerA)
    (F : ∀ base : Heap, K.In base → base.Ns mainGlobals mg → (∀ q ∈ cs, LamX.TabB base mg q.1 q.2) → FnG P w K mg base k fa fd [x] f) (hbd : ∀ (s : Shared) (u : Value), BindsTo s fd ⟨[u], []⟩ [(x, u)])
    (hf : f [.scr (ns.map D.int)] (tabSto Ts) = .ok (.bl true) S') :
    codeAny (model P w) callerA (.call (.ref fa) ⟨[.ref a], []⟩) (fun r s' => r = .ok (.ret (.bool true)) ∧ OldK st.heap s'.heap ∧ s'.os = st.os ∧ AllBare s'.gens) st := by
  obtain ⟨o, sc⟩ := script_stands (P := P) (w := w) KX ha hi hl
  have isT : ∀ b ∈ Ts.map (·.1), st.heap.get? b = some { cls := .none, data := .fields #[] } := fun b hb => by
    obtain ⟨p, hp, rfl⟩ := List.mem_map.mp hb
    obtain ⟨q, hq, e⟩ := TA.mem p hp
    rw [← e]; exact TA.emp q hq
  have outT : ∀ b ∈ Ts.map (·.1), K.lookup b = none := fun b hb => by
    obtain ⟨p, hp, rfl⟩ := List.mem_map.mp hb
    obtain ⟨q, hq, e⟩ := TA.mem p hp
    rw [← e]; exact TA.out q hq
  have aT : a ∉ Ts.map (·.1) := fun z => by
    have q := isT a z
    rw [ha] at q
    have z' : Data.seq vs.toArray _ = Data.fields #[] := congrArg Obj.data (Option.some.inj q)
    cases z'
  -- what is an object of another kind is not told
  have untr : ∀ b ob, st.heap.get? b = some ob → (∀ its n, ob.data ≠ .seq its n) → ob.data ≠ .fields #[] → seeT a o (Ts.map (·.1)) b = none := fun b ob e d1 d2 => by
    cases q : seeT a o (Ts.map (·.1)) b with
    | none => rfl
    | some u =>
      rcases seeT_some q with ⟨e1, e2⟩ | ⟨_, e2, _⟩
      · subst e1
        obtain ⟨ob2, its, n, e3, e4⟩ := sc.seq
        rw [e] at e3; cases e3
        exact (d1 _ _ e4).elim
      · rw [isT b e2] at e; cases e
        exact (d2 rfl).elim
  have ns' : ∀ (b : Addr) (m : Str → Option Value), st.heap.Ns b m → (hidT st.heap (seeT a o (Ts.map (·.1)))).Ns b m := fun b m ⟨ob, es, ep, e, d, r⟩ =>
    ⟨ob, es, ep, hidT_get e (untr b ob e (fun _ _ z => by rw [d] at z; cases z) fun z => by rw [d] at z; cases z), d, r⟩
  have KB : K.In (hidT st.heap (seeT a o (Ts.map (·.1)))) := fun b ob e => hidT_get (KX b ob e) (by
    cases q : seeT a o (Ts.map (·.1)) b with
    | none => rfl
    | some u =>
      rcases seeT_some q with ⟨e1, e2⟩ | ⟨_, e2, _⟩
      · subst e1
        rw [sc.free (by rw [e2]; exact fun z => nomatch z)] at e; cases e
      · rw [outT b e2] at e; cases e)
  have M : Mod K mg (hidT st.heap (seeT a o (Ts.map (·.1)))) := by
    refine ⟨KB, ns' _ _ g1, ⟨mb, ns' _ _ g2, g3⟩, ?_⟩
    obtain ⟨mc, h1, h2⟩ := g4
    exact ⟨mc, ns' _ _ h1, h2⟩
  have TB : ∀ q ∈ cs, LamX.TabB (hidT st.heap (seeT a o (Ts.map (·.1)))) mg q.1 q.2 := fun q hq => by
    have hTp := TA.emp q hq
    constructor
    · obtain ⟨oc, us, file, tf, flags, tg, inF, text, tt, e1, r1, r2, r3, rest⟩ := TA.code q hq
      refine ⟨oc, us, file, tf, flags, tg, inF, text, tt, hidT_get e1 (untr _ _ e1 (fun _ _ z => by rw [r2] at z; cases z) fun z => ?_), r1, r2, r3, rest⟩
      rw [r2] at z
      cases z
      simp at r3
    · obtain ⟨bm, ob, b1, b2, b3, b4, b5, b6⟩ := hbm
      refine ⟨bm, ob, b1, b2, fun z => ?_, fun z => ?_, hidT_get b3 (untr _ _ b3 (fun _ _ z => by rw [b6] at z; cases z) fun z => by rw [b6] at z; cases z), b4, b5, b6⟩
      · obtain ⟨o2, es, ep, e, d, _⟩ := g1
        rw [z, e] at b3; cases b3
        rw [b6] at d; cases d
      · rw [z, hTp] at b3; cases b3
        cases b6
    · intro z
      obtain ⟨o2, es, ep, e, d, _⟩ := g1
      rw [z, hTp] at e; cases e
      cases d
  have hok : HOk P w (seeT a o (Ts.map (·.1))) st.heap := fun b u z => by
    rcases seeT_some z with ⟨e1, e2⟩ | ⟨_, e1, e2⟩
    · subst e1
      refine (sc.ok b u (by unfold seeOnly; rw [if_pos rfl]; exact e2)).stay (fun _ _ _ q => q) (fun c q => ?_) fun c xs q => ?_
      · obtain ⟨q1, q2⟩ := seeOnly_some q
        unfold seeT; rw [if_pos q1]; exact q2
      · obtain ⟨q1, q2⟩ := seeOnly_some q
        unfold seeT; rw [if_pos q1]; exact q2
    · subst e2
      exact isT b e1
  have env : Env0 P w K mg (hidT st.heap (seeT a o (Ts.map (·.1)))) callerA [] st (seeT a o (Ts.map (·.1))) := {
    frames := rfl
    mod := M
    bs := fun b ob e => of_hidT e
    bsz := Nat.le_of_eq (hidT_size _ _)
    funs := trivial
    frf := fun b z => absurd (show b ∈ ([] : List Addr) from z) (by simp)
    hok := hok
    bare := .of_eq g5 }
  have vr : VR K ⟨Ts.map (·.1), []⟩ (seeT a o (Ts.map (·.1))) (.ref a) (.scr (ns.map D.int)) := by
    have := sc.vr
    cases this with
    | scr h hs =>
      have e := VRs.of_int hs
      subst e
      refine .scr (xs := ns.map V.int) ?_ (VRs.map_int ns)
      rcases h with ⟨ob, h1, h2⟩ | h
      · refine .inl ⟨ob, ?_, fun z => ?_⟩
        · unfold seeOnly at h1
          rw [if_pos rfl] at h1
          unfold seeT
          rw [if_pos rfl]; exact h1
        · rcases z with z | z
          · exact aT z
          · exact nomatch z
      · exact .inr h
  have go := (F _ KB (ns' _ _ g1) TB).run callerA [] st (seeT a o (Ts.map (·.1))) ⟨[.ref a], []⟩ [.ref a] [.ref a] (fun v _ => v = .bl true) (fun _ _ _ => False) hr rfl env (hbd st (.ref a)) (.cons rfl .nil)
    ⟨⟨Ts.map (·.1), []⟩, tabSto Ts, _, sr_tabs TA.nd aT, .cons vr .nil, by
      rw [hf]
      intro ρ' H' v _ _ r
      cases r; rfl⟩
  refine codeAny_mono go fun res s' h => ?_
  match res, h with
  | .error e, h =>
    obtain ⟨_, _, _, _, _, _, _, _, _, _, _, _, z⟩ := h
    exact z.elim
  | .ok .next, h => exact False.elim h
  | .ok .brk, h => exact False.elim h
  | .ok .cont, h => exact False.elim h
  | .ok (.ret u), ⟨v, H', os, bare, un, hok', rv, q⟩ =>
    have q' : v = .bl true := q
    subst q'
    have hu : u = .bool true := rv
    subst hu
    have plain : ∀ b ob, st.heap.get? b = some ob → b ∉ Ts.map (·.1) → s'.heap.get? b = some ob := fun b ob e nb => by
      cases q : seeT a o (Ts.map (·.1)) b with
      | none => exact un.keep b ob e q (fun z => absurd (show b ∈ ([] : List Addr) from z) (by simp)) (by simp)
      | some u =>
        rcases seeT_some q with ⟨e1, e2⟩ | ⟨_, e1, _⟩
        · subst e1
          obtain ⟨ob2, xs, rfl, e3⟩ := sc.frz u e2
          obtain ⟨k1, _⟩ := hok' b _ (un.frzs b ob2 _ q)
          rw [e] at e3; cases e3
          exact k1
        · exact absurd e1 nb
    have grown : ∀ b ∈ Ts.map (·.1), ∃ more : Array Value, s'.heap.get? b = some { cls := .none, data := .fields more } := fun b hb => by
      have hba : b ≠ a := by rintro rfl; exact aT hb
      obtain ⟨more, z⟩ := un.tbls b #[] (by unfold seeT; rw [if_neg hba, if_pos hb])
      exact ⟨_, hok' b _ z⟩
    refine ⟨rfl, ⟨fun b ob e => ?_, fun b ob e => ?_⟩, os, bare⟩
    · by_cases nb : b ∈ Ts.map (·.1)
      · obtain ⟨more, hm⟩ := grown b nb
        obtain ⟨p, hp, e1⟩ := List.mem_map.mp nb
        obtain ⟨q, hq, e2⟩ := TA.mem p hp
        have e3 : q.2 = b := e2.trans e1
        rw [isT b nb] at e; cases e
        refine .inr (.inl ⟨?_, rfl, #[], more, rfl, by rw [Array.empty_append]; exact hm⟩)
        rw [← e3]
        exact ((TA.code q hq).tab (TA.emp q hq)).isCodeTable
      · exact .inl (plain b ob e nb)
    · by_cases nb : b ∈ Ts.map (·.1)
      · obtain ⟨more, hm⟩ := grown b nb
        exact ⟨_, hm⟩
      · exact ⟨ob, plain b ob e nb⟩
/-- the tables of top defs are empty at the call -/
theorem walk_GT {l : PySem.W.OpenLaw} {n k : Nat} {q : Program} {loose : List Str} {XP : (Str → Option Value) → Heap → Prop} {YP : World → Heap → Prop} {d : DefRec} {K : Params → PySem.W.Frag} {x : Str} (names : List Str)
    (hn : l.most = some n) (hn2 : n ≤ sizeLine) (hdf : d.params.defaults = []) (hr : Room k callerA) (hrec : (names.all fun nm => (recsOf q).any fun e => e.name == nm) = true) (hY : ∀ (w : World) (h : Heap), YP w h → (K w.params).In h)
    (F : ∀ (w : World) (mg : Str → Option Value) (fa : Addr) (h : Heap), (K w.params).In h → h.Ns mainGlobals mg → mg d.name = some (.ref fa) → (∀ nm ∈ names, ∀ ga, mg nm = some (.ref ga) → LamX.OwnTab (K w.params) ga h) →
      ∃ (fd : FuncData) (f : List D → Sto → R D) (cs : List (Addr × Addr)) (Ts : List (Addr × Str)), TabsAt (K w.params) h cs Ts ∧ (∀ (s : Shared) (u : Value), BindsTo s fd ⟨[u], []⟩ [(x, u)]) ∧ (∀ base : Heap, (K w.params).In base → base.Ns mainGlobals mg → (∀ q ∈ cs, LamX.TabB base mg q.1 q.2) → FnG l.prog w (K w.params) mg base k fa fd [x] f) ∧
        ∀ ns : List Int, ns.length ≤ n → ∃ S', f [.scr (ns.map D.int)] (tabSto Ts) = .ok (.bl true) S') :
    PySem.W.WalkO q loose XP YP l.row.toRowW d [] (fun f vs => PySem.call f vs) := by
  refine Att.attach_call hn hdf ?_
  intro w s0 s1 mg mb fa o pm cd doc a vs ns G Y ho hd hcd hmg hobj hints hlen hg
  have KX := hY w _ Y
  have own : ∀ nm ∈ names, ∀ ga, mg nm = some (.ref ga) → LamX.OwnTab (K w.params) ga s1.heap := by
    intro nm hnm ga hga cc PP o1 fd1 e1 dd1 us sl1 y1 y2 y3 y4 y5
    have hr1 := List.all_eq_true.mp hrec nm hnm
    obtain ⟨dL, hdL, en⟩ := List.any_eq_true.mp hr1
    have en' : dL.name = nm := beq_iff_eq.mp en
    obtain ⟨a', o', fd', c', P', z1, z2, z3, z4, z5, z6⟩ := G.T.tab dL hdL
    rw [en', hga] at z1; cases z1
    have w1 := (KX _ _ y1).symm.trans z2; cases w1
    have w2 := y2.symm.trans z3; cases w2
    have w3 := y3.symm.trans z4; cases w3
    obtain ⟨⟨oc, vc, v1, _, v3, v4⟩, hP⟩ := z6
    have w4 := (KX _ _ y4).symm.trans v1; cases w4
    cases v3
    have w5 := y5.symm.trans v4; cases w5
    exact hP
  obtain ⟨fd, f, cs, Ts, TA, hb, hF, hL⟩ := F w mg fa _ KX G.T.g hmg own
  obtain ⟨S', hS⟩ := hL ns hlen
  exact law_runsT KX G.T.g G.T.b G.T.builtins G.T.nolimit hg TA G.T.bmain hobj hints (Nat.le_trans hlen hn2) hr hF hb hS
end
end Z

/-! Z18: count and index of truths; len(set(xs)); products of tuples and lists; max, min of a list; what is never read. -/
namespace Z
open PySem PySem.Spec L2

/-! ### count, index -/
section
variable {X : Cx}
end

section
variable {X : Cx} {W : WX} {o e : Expr} {m : ME} {ms : MA} {apos cpos : Pos}
end
/-! ### len(set(xs)) -/
section
variable {X : Cx} {W : WX} {e : Expr} {m : ME} {p p2 q pos : Pos}
end

/-! ### max(xs), min(xs) -/
/-! ### products -/
theorem tuple_one (l : Addr) (items : Array Value) (n : Nat) (dd : Option Addr) (sl : Array (Option Value)) (u : Tok) :
    Meets (Builtin.«tuple.__mul__» ⟨[.ref l, .int 1 u], []⟩) (fun _ R s => s.heap.get? l = some { cls := .type "tuple", dict := dd, data := .seq items n, slots := sl } ∧ R (.ok (.ret (.ref l))) s) :=
  .of_wp fun prog w A R s h => by
    obtain ⟨hp, g, d, tk, os⟩ := s
    obtain ⟨hl, h⟩ := h
    have f1 := AutoSeq1.idx_int
    wp_walk using wpAny_loadPart' hl
    exact ⟨_, rfl, h⟩
def rOneT (K : PySem.W.Frag) : R2 := fun x y H Q => ∃ l xs, x = .ref l ∧ y = .int 1 ∧ SqT K H l xs ∧ Q x H
theorem op_oneT {X : Cx} : OpR X (binaryOp .Mult) (rOneT X.K) := by
  intro pins st σ H x y v u Q I rx ry h
  obtain ⟨l, xs, e1, e2, hT, q⟩ := h
  subst e1 e2
  cases rx
  obtain ⟨t, e3⟩ := ry
  subst e3
  obtain ⟨its, r, pl, hs⟩ := I.tuple hT
  obtain ⟨⟨cls, dd, data, sl⟩, ho, hc, n, hd⟩ := pl
  simp only at hc hd
  subst hc hd
  exact wpAny_binaryOp_repeat_ref (T := "tuple") (U := "int") (by decide) ⟨_, ho, rfl⟩ (fun s' => typeIs_int s' 1 t) noFill_tuple_mul PySem.F.fills_int_mul PySem.F.slot_int_rmul repeat_tuple PySem.F.slot_int_index.lookup
    (call_meets PySem.F.slot_int_rmul (typeIs_int st 1 t) PySem.F.entry_int_rmul (PySem.F.args_int_rmul_2 _ _) (int_rmul_tuple 1 t l its.toArray n dd sl)
      ⟨ho, rfl, ⟨_, ho, rfl⟩, call_meets PySem.F.slot_tuple_mul ⟨_, ho, rfl⟩ PySem.F.entry_tuple_mul (PySem.F.args_tuple_mul_2 _ _) (tuple_one l its.toArray n dd sl t) ⟨ho, ⟨.ref l, H, I, rfl, q⟩⟩⟩)
def dMulX : D → D → Sto → R D
  | .int i, .int j, S => guardR ((-(2 ^ 64) < i ∧ i < 2 ^ 64) ∨ (-(2 ^ 64) < j ∧ j < 2 ^ 64)) (.ok (.int (i * j)) S)
  | .tup xs, .int k, S => if k = 1 then .ok (.tup xs) S else guardR (xs.isEmpty = false ∧ 2 ≤ k ∧ k ≤ 1000 ∧ xs.length ≤ 1000) (.ok (.tup (List.replicate k.toNat xs).flatten) S)
  | .lst xs, .int k, S => guardR (0 ≤ k ∧ k ≤ 1000 ∧ xs.length ≤ 1000) (.ok (.lst (List.replicate k.toNat xs).flatten) S)
  | _, _, _ => .bad
theorem dMulX_ok {K : PySem.W.Frag} : OpS K dMulX (fun x y H Q => (rMulR K x y H Q ∨ rOneT K x y H Q) ∨ rRep x y H Q) := fun Wk ρ S H x y dx dy Q s rx ry h => by
  unfold dMulX at h
  split at h
  · cases rx; cases ry
    obtain ⟨hc, h⟩ := guardR_post h
    exact .inl (.inl (.inl ⟨_, _, rfl, rfl, hc, h.here s (.int _)⟩))
  · cases ry
    split at h
    · rename_i k e
      subst e
      obtain ⟨a, vs, rfl, ha, hs⟩ := tup_of rx
      exact .inl (.inr ⟨a, vs, rfl, rfl, ha, h.here s rx⟩)
    · obtain ⟨⟨h1, h2, h3, h4⟩, h⟩ := guardR_post h
      obtain ⟨a, vs, rfl, ha, hs⟩ := tup_of rx
      refine .inl (.inl (.inr ⟨a, _, vs, rfl, rfl, ha, ?_, h2, h3, by rw [hs.length]; exact h4, h.newTup s (hs.rep _)⟩))
      rintro rfl; cases hs; cases h1
  · obtain ⟨⟨h1, h2, h3⟩, h⟩ := guardR_post h
    cases ry
    cases rx with
    | @lst a vs _ ha hn hs =>
      rename_i xs k S
      refine .inr ⟨a, k, vs, rfl, rfl, ha, by omega, by omega, ?_, h.newLst s (hs.rep _)⟩
      rw [hs.length, sizeLine_eq]
      have a1 : xs.length * k.toNat ≤ 1000 * 1000 := Nat.mul_le_mul h3 (by omega)
      omega
  · exact h.elim
theorem z_mulX {X : Cx} {W : WX} {a b : Expr} {ma mb : ME} {pos : Pos} (ha : PE X a (Em X.K W ma)) (hb : PE X b (Em X.K W mb)) : PE X (.BinOp a .Mult b pos) (Em X.K W (mBin dMulX ma mb)) := z_bin ((op_mulZ.or op_oneT).or op_rep) dMulX_ok ha hb
/-! ### what is never read; room where an error is handled -/
def mBad : ME := fun _ _ => .bad
theorem z_bad {X : Cx} {W : WX} {e : Expr} : PE X e (Em X.K W mBad) := ⟨fun _ _ _ _ _ _ h => by
  obtain ⟨ρ, τ, S, s, r, p⟩ := h
  exact p.elim⟩
theorem un100H {k : Nat} {A : Around} (r : L2H.RoomH k A) : A.units + 100 < cLine := by have := r.un; omega
end Z

/-! Z19: what the end of a law with errors and lambdas asks. -/
namespace Z
open PySem L2
def clsB (K : PySem.W.Frag) (names : List Str) : Bool := names.all fun c => match PySem.W.nsIn K mainGlobals c with
  | some (some _) => true
  | _ => false
theorem gc_ok {K : PySem.W.Frag} {h : Heap} {mg : Str → Option Value} {names : List Str} (X : K.In h) (G : h.Ns mainGlobals mg) (hB : clsB K names = true) : ∀ c ∈ names, mg c = some (clsAt K c) := fun c hc => by
  have := List.all_eq_true.mp hB c hc
  split at this
  · rename_i v e
    rw [PySem.W.mg_of X G e]
    unfold clsAt
    rw [e]
  · cases this
theorem own_ok {K : PySem.W.Frag} {hd : Str} {ts cs : List Str} (h : (cs.all fun c => ownB K hd ts c) = true) : ∀ c ∈ cs, ∃ C, Own K hd ts c C := fun c hc => ownB_ok (List.all_eq_true.mp h c hc)
/-- the fields of a code object, its table at P -/
def CodeF (vs : Array Value) (P : Addr) : Prop := ∃ (file : Str) (tf : Tok) (flags : Int) (tg : Tok) (inF : Bool) (text : Int) (tt : Tok), vs[11]? = some (.ref P) ∧ vs.getD 11 .none = .ref P ∧ vs.getD 18 .none = .str file tf ∧ vs.getD 7 .none = .int flags tg ∧ vs.getD 9 .none = .bool inF ∧ vs.getD 10 .none = .int text tt
theorem codeHd_of {K : PySem.W.Frag} {h : Heap} {c P : Addr} {dd : Option Addr} {vs : Array Value} {sl : Array (Option Value)} (X : K.In h) (lc : K.lookup c = some ⟨.type "code", dd, .fields vs, sl⟩) (CF : CodeF vs P) (out : K.lookup P = none) : PySem.W.CodeHd h c P := by
  obtain ⟨file, tf, flags, tg, inF, text, tt, h1, h2, h3, h4, h5, h6⟩ := CF
  exact ⟨_, vs, file, tf, flags, tg, inF, text, tt, X _ _ lc, rfl, rfl, h1, h2, h3, h4, h5, h6, by rintro rfl; rw [lc] at out; cases out⟩
def suiteOf (st : Stmt) : List Stmt := match defBody st with
  | [.Try _ [.ExceptHandler _ _ s _] _ _ _] => s
  | _ => []
end Z

/-! Z20: the pen where tables stand in the store. -/
namespace Z
open PySem L2
/-- the tables of the store, all along -/
class TabsC where
  Ts : List (Addr × Str)
theorem tabs_app {S : Sto} {c : C} (h : getTab c = none := by rfl) : tabsOf (S ++ [c]) = tabsOf S := by
  unfold tabsOf
  rw [List.filterMap_append]
  simp [h]
theorem tabs_set : ∀ {S : Sto} {l : Nat} {c c0 : C}, S[l]? = some c0 → getTab c0 = none → getTab c = none → tabsOf (S.set l c) = tabsOf S
  | [], _, _, _, h, _, _ => by simp at h
  | d :: r, 0, c, c0, h, h0, h1 => by
    simp at h
    subst h
    simp [tabsOf, List.filterMap_cons, h0, h1]
  | d :: r, l + 1, c, c0, h, h0, h1 => by
    have ih := tabs_set (S := r) (l := l) (c := c) (c0 := c0) (by simpa using h) h0 h1
    simp only [tabsOf, List.set_cons_succ, List.filterMap_cons] at ih ⊢
    rw [ih]
theorem tabs_ext : ∀ {S S' : Sto}, S'.length = S.length → (∀ (l : Nat) (c : C), S[l]? = some c → ∃ c', S'[l]? = some c' ∧ getTab c' = getTab c) → tabsOf S' = tabsOf S
  | [], S', h, _ => by
    have : S' = [] := List.eq_nil_of_length_eq_zero (by simpa using h)
    rw [this]
  | c :: r, S', h, k => by
    cases S' with
    | nil => simp at h
    | cons c' r' =>
      obtain ⟨x, e1, e2⟩ := k 0 c (by simp)
      simp at e1; subst e1
      have ih := tabs_ext (S := r) (S' := r') (by simpa using h) fun l d e => by
        obtain ⟨y, y1, y2⟩ := k (l + 1) d (by simpa using e)
        exact ⟨y, by simpa using y1, y2⟩
      simp only [tabsOf, List.filterMap_cons, e2] at ih ⊢
      rw [ih]
section
variable [TabsC]
def PenT (l : Nat) (S : Sto) : Prop := Pen l S ∧ tabsOf S = TabsC.Ts
theorem PenT.fr {l : Nat} {S S' : Sto} (h : PenT l S) (p : Pen l S') (f : Fr l S S') : PenT l S' := ⟨p, (tabs_ext f.len fun j c e => by
  by_cases hj : j = l
  · subst hj
    obtain ⟨a, b, e1⟩ := h.1
    obtain ⟨a', b', e2⟩ := p
    rw [e] at e1; cases e1
    exact ⟨_, e2, rfl⟩
  · exact ⟨c, (f.eq j hj).trans e, rfl⟩).trans h.2⟩
theorem PenT.push {l : Nat} {S : Sto} {c : C} (h : PenT l S) (hc : getTab c = none := by rfl) : PenT l (S ++ [c]) := ⟨h.1.push, (tabs_app hc).trans h.2⟩
theorem PenT.lt {l : Nat} {S : Sto} (h : PenT l S) : l < S.length := h.1.lt
/-- another list of the store changes -/
theorem PenT.put {l k : Nat} {S : Sto} {ds es : List D} (h : PenT l S) (hk : S[k]? = some (.lst ds)) (hn : k ≠ l) : PenT l (S.set k (.lst es)) := by
  refine ⟨?_, (tabs_set hk rfl rfl).trans h.2⟩
  obtain ⟨a, b, e⟩ := h.1
  exact ⟨a, b, by rw [List.getElem?_set_ne hn]; exact e⟩
end
end Z

/-! Z21: instances of own classes: made, their fields read and stored, their methods called. -/
namespace Z
open PySem L2

def putD (f : Str) (d : D) : List (Str × D) → List (Str × D)
  | [] => [(f, d)]
  | (g, x) :: r => if g = f then (g, d) :: r else (g, x) :: putD f d r
section
variable {P : V → D → Prop}
theorem KR.look {f : Str} : ∀ {ws : List (Str × V)} {fs : List (Str × D)}, KR P ws fs → (fs.lookup f = none → ws.lookup f = none) ∧ ∀ d, fs.lookup f = some d → ∃ v, ws.lookup f = some v ∧ P v d
  | _, _, .nil => ⟨fun _ => rfl, fun d h => nomatch h⟩
  | _, _, .cons (k := k) h hs => by
    have ih := KR.look (f := f) hs
    simp only [List.lookup]
    cases q : f == k with
    | true => exact ⟨fun z => (nomatch z), fun d z => by cases z; exact ⟨_, rfl, h⟩⟩
    | false => exact ih
theorem KR.put {f : Str} {v : V} {d : D} (h0 : P v d) : ∀ {ws : List (Str × V)} {fs : List (Str × D)}, KR P ws fs → KR P (putF f v ws) (putD f d fs)
  | _, _, .nil => .cons h0 .nil
  | _, _, .cons (k := k) h hs => by
    unfold putF putD
    by_cases q : k = f
    · rw [if_pos q, if_pos q]; exact .cons h0 hs
    · rw [if_neg q, if_neg q]; exact .cons h (KR.put h0 hs)
end
section
variable {X : Cx} {W : WX} {o e v : Expr} {es : List Expr} {mo mv : ME} {mas : MA} {c f m : Str} {C : Addr} {pos pos' apos : Pos}
/-- o.f -/
def mFld (c f : Str) (m : ME) : ME := fun τ S => (m τ S).bind fun d S1 => match d with
  | .loc l => (match S1[l]? with
    | some (.ins c' fs) => if c' = c then ofO (fs.lookup f) S1 else .bad
    | _ => .bad)
  | _ => .bad
/-- o.f = v -/
def sFldA (c f : Str) (o v : ME) : MS := fun τ S => liftS (v τ S) τ fun y S1 => liftS (o τ S1) τ fun d S2 => match d with
  | .loc l => (match S2[l]? with
    | some (.ins c' fs) => if c' = c ∧ fs.length < 1000 then .nx τ (S2.set l (.ins c (putD f y fs))) else .bad
    | _ => .bad)
  | _ => .bad
/-- a def as the library's promise -/
theorem FnK.ok {P : Program} {w : World} {K : PySem.W.Frag} {mg : Str → Option Value} {base : Heap} {k : Nat} {g : Addr} {fd : FuncData} {ps : List Str} {h : List D → Sto → R D} (F : FnK P w K mg base k g fd ps h) : FnOk P w K mg base (L2.CX P w) k g fd ps (Sf K h) :=
  ⟨fun vs H Q E ⟨ρ, S, ds, s, v, q⟩ => by rw [v.length]; exact F.len ds S q.nbad, F.run⟩
/-- o.m(e, ..); what it would let out isn't let out -/
def mMethO (c m : Str) (h : List D → Sto → R D) (o : ME) (r : MA) : ME := fun τ S => (o τ S).bind fun d S1 => match d with
  | .loc l => (match S1[l]? with
    | some (.ins c' fs) => if c' = c ∧ fs.lookup m = none then (r τ S1).bind fun ds S2 => noEx (h (.loc l :: ds) S2) else .bad
    | _ => .bad)
  | _ => .bad
/-- C(e, ..) by __init__ -/
def mMake (c : Str) (h : List D → Sto → R D) (r : MA) : ME := fun τ S => (r τ S).bind fun ds S1 => (noEx (h (.loc S1.length :: ds) (S1 ++ [.ins c []]))).bind fun d S2 => match d with
  | .non => .ok (.loc S1.length) S2
  | _ => .bad
end
section
variable {P : Program} {w : World} {K : PySem.W.Frag} {mg : Str → Option Value} {base : Heap}
end
end Z

/-! Z22: sum(xs), tuple(range(a, b)); the defs of a class; what the end asks of a class. -/
namespace Z
open PySem L2
def rgI (i j : Int) : List Int := (List.range (j - i).toNat).map fun (k : Nat) => i + (k : Int)
section
variable {X : Cx} {W : WX} {a b : Expr} {ma mb : ME} {p p2 pos pos2 : Pos}
end
/-- the i-th statement of a class's body -/
def clsDef (st : Stmt) (i : Nat) : Stmt := (match st with
  | .ClassDef (body := b) .. => b
  | _ => []).getD i (.Pass ⟨0, 0, 0, 0⟩)
/-- a class's facts, of its address -/
theorem clsAt_of {K : PySem.W.Frag} {c : Str} {v : Value} (e : PySem.W.nsIn K mainGlobals c = some (some v)) : clsAt K c = v := by
  unfold clsAt; rw [e]
end Z

/-! Z23: a set of rows: tuples of whole numbers and texts. The search in its table. -/
namespace Z
open PySem L2 PySem.Spec PyProof.Rows
/-- what a row holds -/
def AtomV (v : Value) : Prop := (∃ i t, v = .int i t) ∨ ∃ x t, v = .str x t
theorem atom_own {v : Value} (h : AtomV v) (n : Nat) : ofAClassStatement n v = pure false := by
  rcases h with ⟨i, t, rfl⟩ | ⟨x, t, rfl⟩ <;> (cases n <;> rfl)
theorem atom_by {v : Value} (h : AtomV v) (n : Nat) : ∃ b, hashByValue n v = pure b := by
  rcases h with ⟨i, t, rfl⟩ | ⟨x, t, rfl⟩ <;> (cases n <;> exact ⟨_, rfl⟩)
section
variable {P : Program} {w : World} {A : Around} {E : Value → Shared → Prop} {s : Shared}
/-- at b stands the row k -/
structure RowAt (P : Program) (w : World) (h : Heap) (k : NestedKey) (b : Addr) : Prop where
  key : (nestedKind P w).is h k b
  flat : ∃ (o : Obj) (vs : Array Value) (n : Nat), h.get? b = some o ∧ o.cls = .type "tuple" ∧ o.data = .seq vs n ∧ ∀ v ∈ vs.toList, AtomV v
abbrev rh (w : World) (k : NestedKey) : Int := NestedKey.hash w k
/-- a walk over atoms that always goes on -/
theorem atoms_loop {β : Type} {l : List Value} {f : Value → (Option Bool × β) → Sem (ForInStep (Option Bool × β))} {b0 : β} {Q : (Option Bool × β) → Shared → Prop} (hl : ∀ v ∈ l, AtomV v)
    (hf : ∀ v, AtomV v → f v (none, b0) = pure (.yield (none, b0))) (h : Q (none, b0) s) : wpAny (model P w) A (forIn l (none, b0) f) Q E s := by
  induction l with
  | nil => rw [List.forIn_nil]; exact wpAny_pure h
  | cons v r ih =>
    rw [List.forIn_cons, hf v (hl v (by simp))]
    exact wpAny_bind (wpAny_pure (ih fun u hu => hl u (by simp [hu])))
theorem row_own {k : NestedKey} {b : Addr} {Q : Bool → Shared → Prop} (hk : RowAt P w s.heap k b) (h : Q false s) : wpAny (model P w) A (ofAClassStatement 8 (.ref b)) Q E s := by
  obtain ⟨o, vs, n, ho, hc, hd, ha⟩ := hk.flat
  unfold ofAClassStatement
  refine wpAny_bind (wpAny_typeOf (T := "tuple") ⟨o, ho, hc⟩ ?_)
  dsimp only
  simp only [show (("tuple" : String) == "tuple") = true by decide, if_true, Bool.not_true, Bool.false_eq_true, if_false]
  show wpAny _ _ (seqItems? (.ref b) >>= _) _ _ s
  refine wpAny_bind (wpAny_seqItems ho hd ?_)
  dsimp only
  refine wpAny_bind ?_
  show wpAny _ _ (forIn vs _ _) _ _ s
  rw [← Array.forIn_toList]
  refine atoms_loop ha (fun v hv => ?_) (wpAny_pure h)
  rw [atom_own hv]
  rfl
theorem row_by {k : NestedKey} {b : Addr} {Q : Bool → Shared → Prop} (hk : RowAt P w s.heap k b) (h : ∀ c, Q c s) : wpAny (model P w) A (hashByValue 8 (.ref b)) Q E s := by
  obtain ⟨o, vs, n, ho, hc, hd, ha⟩ := hk.flat
  unfold hashByValue
  refine wpAny_bind (wpAny_specialOf (T := "tuple") ⟨o, ho, hc⟩ F.slot_tuple_hash.lookup ?_)
  show wpAny _ _ (seqItems? (.ref b) >>= _) _ _ s
  refine wpAny_bind (wpAny_seqItems ho hd (wpAny_bind ?_))
  show wpAny _ _ (forIn vs _ _) _ _ s
  rw [← Array.forIn_toList]
  refine wpAny_forIn_list _ (fun rest _ s' => s' = s ∧ ∀ v ∈ rest, AtomV v) _ (fun v rest r s' ⟨e, al⟩ => ?_) (fun r s' ⟨e, _⟩ => ?_) _ _ ⟨rfl, ha⟩
  · obtain ⟨c, ec⟩ := atom_by (al v (by simp)) 7
    rw [ec]
    refine wpAny_bind (wpAny_pure ?_)
    cases c with
    | true => exact wpAny_pure ⟨e, fun u hu => al u (by simp [hu])⟩
    | false =>
      subst e
      exact wpAny_pure (wpAny_pure (h false))
  · subst e
    obtain ⟨r1, r2⟩ := r
    cases r1 <;> exact wpAny_pure (h _)
/-- a search among rows tells nothing of the table -/
theorem row_seen {k : NestedKey} {b : Addr} {Q : Bool → Shared → Prop} (hk : RowAt P w s.heap k b) {ys : List Value} (hy : ∀ y ∈ ys, ∃ k' c, y = Value.ref c ∧ RowAt P w s.heap k' c) (h : Q false s) : wpAny (model P w) A (searchCouldBeSeen (.ref b) ys) Q E s := by
  unfold searchCouldBeSeen
  refine wpAny_bind (wpAny_forIn_list _ (fun rest r s' => r.1 = none ∧ s' = s ∧ ∀ y ∈ rest, y ∈ ys) _ (fun v rest r s' ⟨hr, hs, hall⟩ => ?_) (fun r s' ⟨hr, hs, _⟩ => ?_) _ _ ⟨rfl, rfl, fun y hy' => hy'⟩)
  · subst hs
    obtain ⟨k', c, rfl, hc⟩ := hy v (hall v (by simp))
    have more : ∀ y ∈ rest, y ∈ ys := fun u hu => hall u (by simp [hu])
    dsimp only
    by_cases hv : (b == c || (carriedByValue (.ref b) && carriedByValue (.ref c))) = true
    · exact wp_if_pos hv (wpAny_pure ⟨rfl, rfl, more⟩)
    · refine wp_if_neg hv (wpAny_bind ((nestedKind P w).quiet hk.key ?_))
      simp only [Bool.not_true, Bool.false_eq_true, if_false]
      refine wpAny_bind ((nestedKind P w).quiet hc.key ?_)
      simp only [Bool.not_true, Bool.false_eq_true, if_false]
      refine wpAny_bind (row_own hk ?_)
      simp only [Bool.false_eq_true, if_false]
      refine wpAny_bind (row_own hc ?_)
      simp only [Bool.false_eq_true, if_false]
      exact wpAny_pure ⟨rfl, rfl, more⟩
  · subst hs
    obtain ⟨r1, r2⟩ := r
    simp only at hr
    subst hr
    exact wpAny_pure h
end
end Z

/-! Z24: a row is looked for in the set's table, and put into it. -/
namespace Z
open PySem L2 PySem.Spec PyProof.Rows
abbrev Rw := Addr × NestedKey
def entriesN (w : World) (L : List Rw) : List (Int × Value) := L.map fun p => (rh w p.2, Value.ref p.1)
abbrev hashesN (w : World) (L : List Rw) : List Int := L.map fun p => rh w p.2
abbrev keysN (L : List Rw) : List NestedKey := L.map fun p => p.2
/-- at a stands a set of the rows L, in the order of its table -/
structure RowSet (P : Program) (w : World) (h : Heap) (a : Addr) (L : List Rw) (es : Array (Int × Value)) (ep : Nat) (t : SetTable) : Prop where
  obj : ∃ o, h.get? a = some o ∧ o.ExactSet ∧ o.data = .set es ep t
  ents : es.toList = entriesN w L
  tabOk : TabOk t (hashesN w L)
  once : (keysN L).Nodup
  row : ∀ p ∈ L, RowAt P w h p.2 p.1
  ledOr : w.params.followText "set-order" = true ∨ t.led = true
  space : L.length * 5 < t.mask * 3
  below : L.length < 64
section
variable {P : Program} {w : World} {A : Around} {E : Value → Shared → Prop} {s : Shared} {a : Addr} {L : List Rw} {es : Array (Int × Value)} {ep : Nat} {t : SetTable}
theorem ents_size (h : es.toList = entriesN w L) : es.size = L.length := by
  rw [← Array.length_toList, h, entriesN, List.length_map]
theorem ents_at (h : es.toList = entriesN w L) {i : Nat} {p : Rw} (hp : L[i]? = some p) : es[i]? = some (rh w p.2, Value.ref p.1) := by
  rw [← Array.getElem?_toList, h, entriesN, List.getElem?_map, hp, Option.map_some]
theorem fits_rows {hs : List Int} (T : TabOk t hs) (hn : es.size = hs.length) (h : hs.length ≤ t.mask) : t.fits es.size = true := by
  have h2 : t.dummies.size = 0 := by rw [T.dm]; rfl
  have h3 : t.place.size = es.size := T.sz.trans hn.symm
  have h4 : t.place.size + t.dummies.size ≤ t.mask := by rw [h2, h3, hn]; exact h
  unfold SetTable.fits SetTable.fill
  rw [Bool.and_eq_true]
  exact ⟨beq_iff_eq.mpr h3, decide_eq_true h4⟩
theorem RowSet.fit (R : RowSet P w s.heap a L es ep t) : t.fits es.size = true := fits_rows R.tabOk (by rw [ents_size R.ents]; simp) (by have := R.space; simp; omega)
theorem RowSet.stays (R : RowSet P w s.heap a L es ep t) : ¬ t.gaveWay = true := by
  simp [SetTable.gaveWay, mask_odd R.tabOk.mok]
/-- the way of a hash -/
abbrev stepN (t : SetTable) (h : Int) (c : Nat) : SetTable.Probe := nth t.mask (runAt t.mask (SetTable.bits h % (t.mask + 1)) (SetTable.bits h)) c
theorem stepN_clean (t : SetTable) (h : Int) (c : Nat) : (stepN t h c).dummy = none := by
  have all : ∀ (n : Nat) (p : SetTable.Probe), p.dummy = none → (nth t.mask p n).dummy = none := fun n => by
    induction n with
    | zero => exact fun p q => q
    | succ n ih => exact fun p q => ih _ (by unfold adv; split <;> exact q)
  exact all c _ rfl
theorem stepN_add (t : SetTable) (h : Int) (c q : Nat) : nth t.mask (stepN t h c) q = stepN t h (c + q) := (nth_add t.mask c _ q).symm
theorem same_block (t : SetTable) : t.sameMemory t.moves t.mask = some true := by simp [SetTable.sameMemory]
/-- the search, from its c-th step on -/
theorem row_find (R : RowSet P w s.heap a L es ep t) {x : Addr} {k : NestedKey} (hx : RowAt P w s.heap k x) (hu : A.units + 8 < cLine) {K : Nat} (hKf : K < 10 * SetTable.turns t.mask) (hK : way t.mask (rh w k) K ∉ t.place.toList) (hKb : ∀ c, c < K → way t.mask (rh w k) c ∈ t.place.toList) {Q : SetFound → Shared → Prop}
    (yes : k ∈ keysN L → Q (.there none) s) (no : k ∉ keysN L → Q (.free (way t.mask (rh w k) K) false) s) : ∀ (f c : Nat) (st : Option SetTable.Probe), st.getD (t.probeStart (rh w k)) = stepN t (rh w k) c → c ≤ K → K - c < f →
      (∀ (i : Nat) (p : Rw), L[i]? = some p → p.2 = k → ∃ c', c ≤ c' ∧ c' < K ∧ t.place.toList[i]? = some (way t.mask (rh w k) c')) → wpAny (model P w) A (setSearchFrom a (.ref x) (rh w k) true f st) Q E s := by
  intro f
  induction f with
  | zero => intro c st _ _ hf; exact absurd hf (Nat.not_lt_zero _)
  | succ f ih =>
    intro c st hst hc hf pend
    obtain ⟨o, ho, hex, hd⟩ := R.obj
    have hsl := ents_size R.ents
    have hlen : t.place.toList.length = L.length := by rw [Array.length_toList, R.tabOk.sz, List.length_map]
    have hashOf : ∀ (i : Nat) (p : Rw), L[i]? = some p → (es[i]?.map (fun e => e.1)).getD 0 = rh w p.2 := fun i p hp => by rw [ents_at R.ents hp]; rfl
    have spot : ∀ q, (nth t.mask (stepN t (rh w k) c) q).j = way t.mask (rh w k) (c + q) := fun q => congrArg SetTable.Probe.j (stepN_add t (rh w k) c q)
    have spec := go_spec t R.tabOk.ris R.tabOk.dm (fun i => (es[i]?.map (fun e => e.1)).getD 0) (rh w k) (10 * SetTable.turns t.mask) (K - c) (stepN t (rh w k) c) (stepN_clean t (rh w k) c) (by omega) (fun q hq => by rw [spot]; exact hKb _ (by omega)) (by rw [spot, show c + (K - c) = K by omega]; exact hK)
    have probeAt : t.probe (fun i => (es[i]?.map (fun e => e.1)).getD 0) (rh w k) (st.getD (t.probeStart (rh w k))) = SetTable.probe.go t (fun i => (es[i]?.map (fun e => e.1)).getD 0) (rh w k) (10 * SetTable.turns t.mask) (stepN t (rh w k) c) := by rw [hst]; rfl
    rw [setSearchFrom_succ]
    refine wpAny_bind (wpAny_setState_of ho hd R.fit ?_)
    dsimp only
    refine wp_if_neg R.stays ?_
    try refine wpAny_bind (wpAny_pure ?_)
    rw [probeAt]
    rcases spec with ⟨q, i, hq, hi, hh, hno, hpr⟩ | ⟨hno, hpr⟩
    · rw [hpr]
      dsimp only
      rw [spot] at hi ⊢
      rw [stepN_add]
      have hil : i < L.length := by rw [← hlen]; exact (List.getElem?_eq_some_iff.mp hi).1
      obtain ⟨p, hp⟩ : ∃ p, L[i]? = some p := ⟨L[i], List.getElem?_eq_getElem hil⟩
      have hm : p ∈ L := List.mem_of_getElem? hp
      have live : t.slot (way t.mask (rh w k) (c + q)) = .live i := slot_live R.tabOk.ris hi
      have rest : wpAny (model P w) A (searchRest a (.ref x) (rh w k) true f es t (way t.mask (rh w k) (c + q)) i (stepN t (rh w k) (c + (q + 1)))) Q E s := by
        unfold searchRest
        rw [ents_at R.ents hp]
        dsimp only
        refine wpAny_bind (wpAny_holding ((nestedKind P w).eqBool hu (R.row p hm).key hx.key (wpAny_bind (wpAny_setState_of ho hd R.fit ?_))))
        dsimp only
        by_cases ek : p.2 = k
        · exact wp_if_pos (by simp [ek]) (wpAny_pure (yes (List.mem_map.mpr ⟨p, hm, ek⟩)))
        · refine wp_if_neg (by simp [ek]) ?_
          try refine wpAny_bind (wpAny_pure ?_)
          rw [same_block]
          dsimp only
          simp only [if_true, live, ents_at R.ents hp]
          refine wpAny_bind (wpAny_isSame_ref_self (wpAny_bind (wpAny_pure ?_)))
          simp only [if_true]
          refine wp_if_neg (by simp [ek]) (ih (c + (q + 1)) _ rfl (by omega) (by omega) fun i2 p2 hp2 e2 => ?_)
          obtain ⟨c2, u1, u2, u3⟩ := pend i2 p2 hp2 e2
          refine ⟨c2, ?_, u2, u3⟩
          rcases Nat.lt_trichotomy c2 (c + q) with z | z | z
          · exact absurd ((hashOf i2 p2 hp2).trans (by rw [e2])) (hno (c2 - c) i2 (by omega) (by rw [spot, show c + (c2 - c) = c2 by omega]; exact u3))
          · subst z
            have l2 := slot_live R.tabOk.ris u3
            rw [live] at l2
            injection l2 with l2
            rw [← l2, hp] at hp2
            cases hp2
            exact absurd e2 ek
          · omega
      by_cases hl : t.led = true
      · refine wp_if_neg (by simp [hl]) ?_
        try refine wpAny_bind (wpAny_pure ?_)
        exact rest
      · refine wp_if_pos (by simp [hl]) (wpAny_bind (row_seen hx (fun y hy => ?_) ?_))
        · obtain ⟨e, he, ee⟩ := List.mem_map.mp hy
          have he2 : e ∈ es.toList := by simpa using (show e ∈ es ∧ e.1 = rh w k by simpa using he).1
          rw [R.ents] at he2
          obtain ⟨p2, hp2, e2⟩ := List.mem_map.mp he2
          exact ⟨p2.2, p2.1, by rw [← ee, ← e2], R.row p2 hp2⟩
        · refine wp_if_neg (by decide) ?_
          try refine wpAny_bind (wpAny_pure ?_)
          exact rest
    · rw [hpr]
      dsimp only
      rw [spot, show c + (K - c) = K by omega]
      refine wpAny_pure (no fun hm => ?_)
      obtain ⟨p, hp, e⟩ := List.mem_map.mp hm
      obtain ⟨i, hi⟩ := List.getElem?_of_mem hp
      obtain ⟨c2, u1, u2, u3⟩ := pend i p hi e
      exact hno (c2 - c) i (by omega) (by rw [spot, show c + (c2 - c) = c2 by omega]; exact u3) ((hashOf i p hi).trans (by rw [e]))
theorem row_search (R : RowSet P w s.heap a L es ep t) {x : Addr} {k : NestedKey} (hx : RowAt P w s.heap k x) (hu : A.units + 8 < cLine) {Q : SetFound → Shared → Prop} (yes : k ∈ keysN L → Q (.there none) s)
    (no : ∀ K, k ∉ keysN L → way t.mask (rh w k) K ∉ t.place.toList → (∀ c, c < K → way t.mask (rh w k) c ∈ t.place.toList) → Q (.free (way t.mask (rh w k) K) false) s) : wpAny (model P w) A (setSearch a (.ref x) (rh w k) true) Q E s := by
  obtain ⟨K, k1, k2, k3⟩ := R.tabOk.first (by have := R.space; simp; omega) (rh w k)
  have small : 10 * SetTable.turns t.mask ≤ 1420 := by
    unfold SetTable.turns
    rcases R.tabOk.mok with e | e | e <;> omega
  unfold setSearch
  refine row_find R hx hu k1 k2 k3 yes (fun hn => no K hn k2 k3) 100000 0 none rfl (Nat.zero_le _) (by omega) fun i p hp e => ?_
  have hi : (hashesN w L)[i]? = some (rh w k) := by rw [List.getElem?_map, hp, Option.map_some, e]
  have hlt : i < t.place.toList.length := by
    rw [Array.length_toList, R.tabOk.sz, List.length_map]
    exact (List.getElem?_eq_some_iff.mp hp).1
  obtain ⟨c, hc, e2⟩ := R.tabOk.before k2 hi (List.getElem?_eq_getElem hlt)
  exact ⟨c, Nat.zero_le _, hc, by rw [List.getElem?_eq_getElem hlt, e2]⟩
end
end Z

/-! Z25: a row is added to the set; the table is laid anew where it is too full. -/
namespace Z
open PySem L2 PySem.Spec PyProof.Rows
section
variable {P : Program} {w : World} {A : Around} {E : Value → Shared → Prop} {s : Shared} {a : Addr} {L : List Rw} {es : Array (Int × Value)} {ep : Nat} {t : SetTable}
theorem RowAt.same {h h' : Heap} {k : NestedKey} {b : Addr} {o : Obj} (hb : RowAt P w h k b) (ho : h.get? a = some o) (hd : o.data = .set es ep t) (hs : Heap.SameBut a h h') : RowAt P w h' k b := by
  have other : ∀ c oc vs n, h.get? c = some oc → oc.data = .seq vs n → h'.get? c = some oc := fun c oc vs n hc hcd => by
    refine (hs.2 c fun e => ?_).trans hc
    subst e
    cases ho.symm.trans hc
    rw [hd] at hcd
    cases hcd
  obtain ⟨o', vs, n, g1, g2, g3, g4⟩ := hb.flat
  exact ⟨nestedKind_stays.stays other hb.key, o', vs, n, other b o' vs n g1 g3, g2, g3, g4⟩
theorem RowAt.keep {h h' : Heap} {k : NestedKey} {b : Addr} (x : RowAt P w h k b) (hk : ∀ c o, h.get? c = some o → h'.get? c = some o) : RowAt P w h' k b := by
  obtain ⟨o, vs, n, g1, g⟩ := x.flat
  exact ⟨nestedKind_stays.stays (fun c oc vs n hc _ => hk c oc hc) x.key, o, vs, n, hk b o g1, g⟩
theorem insert_perm {α : Type} (l : List α) (p : Nat) (x : α) : (l.take p ++ x :: l.drop p).Perm (x :: l) := by
  have := List.perm_middle (l₁ := l.take p) (a := x) (l₂ := l.drop p)
  rwa [List.take_append_drop] at this
theorem range_pick {α : Type} (l : List α) : (List.range l.length).filterMap (fun i => l[i]?) = l := by
  induction l with
  | nil => rfl
  | cons x r ih =>
    rw [List.length_cons, List.range_succ_eq_map, List.filterMap_cons]
    simp only [List.getElem?_cons_zero, List.filterMap_map]
    congr 1
theorem pick_rows {order : Array Nat} (he : es.toList = entriesN w L) (hp : order.toList.Perm (List.range L.length)) :
    ∃ L2 : List Rw, (order.filterMap (es[·]?)).toList = entriesN w L2 ∧ L2.Perm L ∧ hashesN w L2 = order.toList.map fun i => (es.map (·.1)).getD i 0 := by
  refine ⟨order.toList.filterMap fun i => L[i]?, ?_, ?_, ?_⟩
  · rw [Array.toList_filterMap, entriesN, List.map_filterMap]
    refine congrFun (congrArg _ (funext fun i => ?_)) _
    rw [← Array.getElem?_toList, he, entriesN, List.getElem?_map]
  · exact (hp.filterMap _).trans (List.Perm.of_eq (range_pick L))
  · have hl : ∀ i ∈ order.toList, i < L.length := fun i hi => List.mem_range.mp (hp.mem_iff.mp hi)
    generalize order.toList = l at hl
    induction l with
    | nil => rfl
    | cons i l ih =>
      have hi := hl i (by simp)
      have e : (es.map (·.1)).getD i 0 = rh w L[i].2 := by
        have q := ents_at he (List.getElem?_eq_getElem hi)
        simp [Array.getD_eq_getD_getElem?, q]
      rw [List.filterMap_cons_some (List.getElem?_eq_getElem hi), List.map_cons, e]
      exact congrArg _ (ih fun j hj => hl j (by simp [hj]))
/-- what must be true of the set ahead of laying it anew -/
structure Loose (P : Program) (w : World) (h : Heap) (a : Addr) (o : Obj) (L : List Rw) (es : Array (Int × Value)) (ep : Nat) (t : SetTable) : Prop where
  at_ : h.get? a = some o
  exact_ : o.ExactSet
  data_ : o.data = .set es ep t
  ents : es.toList = entriesN w L
  fit : t.fits es.size = true
  once : (keysN L).Nodup
  row : ∀ p ∈ L, RowAt P w h p.2 p.1
  ledOr : w.params.followText "set-order" = true ∨ t.led = true
  below : L.length < 64
theorem row_relay {o : Obj} (R : Loose P w s.heap a o L es ep t) {wanted M : Nat} (hw : SetTable.sizeAbove wanted - 1 = M) (hM : MaskOk M) (hw2 : SetTable.sizeAbove wanted ≤ 128) (hn : L.length * 5 < M * 3) {Q : Unit → Shared → Prop}
    (hQ : ∀ h' L' es' ep' t', Heap.SameBut a s.heap h' → RowSet P w h' a L' es' ep' t' → L'.Perm L → Q () { s with heap := h' }) : wpAny (model P w) A (setRelay a wanted) Q E s := by
  have hsl := ents_size R.ents
  obtain ⟨t', order, e, hp, T, em, el, _, _⟩ := relaid_ok t (hs := es.map (·.1)) (wanted := wanted) hw hM (by rw [Array.size_map, hsl]; omega)
  rw [Array.size_map, hsl] at hp
  obtain ⟨L2, r1, r2, r3⟩ := pick_rows R.ents hp
  rw [← r3] at T
  have hs2 : (order.filterMap (es[·]?)).size = es.size := by rw [ents_size r1, r2.length_eq, hsl]
  rw [setRelay_eq]
  refine wpAny_bind (wpAny_setState_of R.at_ R.data_ R.fit ?_)
  dsimp only
  refine wp_if_neg (by rw [sizeLine_eq]; omega) ?_
  try refine wpAny_bind (wpAny_pure ?_)
  rw [e]
  dsimp only
  refine wpAny_bind (wp_if_neg (by rw [hs2]; simp) ?_)
  try refine wpAny_bind (wpAny_pure ?_)
  refine wpAny_pure (wpAny_storeSet_of R.at_ R.data_ ?_ (by have := R.below; show _ ≤ sizeLine; rw [hs2, hsl, sizeLine_eq]; omega))
  have sb : Heap.SameBut a s.heap (s.heap.update a (Obj.putSet (order.filterMap (es[·]?)) t')) := Heap.SameBut.update ..
  refine hQ _ L2 (order.filterMap (es[·]?)) (ep + 1) t' sb ⟨⟨_, store_at R.at_ R.data_, ⟨R.exact_.1, R.exact_.2.1, R.exact_.2.2⟩, rfl⟩, r1, T, (r2.map _).nodup_iff.mpr R.once, fun p hpm => (R.row p (r2.mem_iff.mp hpm)).same R.at_ R.data_ sb, by rw [el]; exact R.ledOr, by rw [r2.length_eq, em]; exact hn, by rw [r2.length_eq]; exact R.below⟩ r2
/-- a table that isn't plain any more -/
theorem tab_dull {hs : List Int} (T : TabOk t hs) : TabOk { t with plain := false } hs := ⟨T.ris, T.dm, T.sz, T.mok, T.bd, T.reach⟩
theorem row_add (R : RowSet P w s.heap a L es ep t) {x : Addr} {k : NestedKey} (hx : RowAt P w s.heap k x) (hu : A.units + 8 < cLine) (hfew : L.length + 1 < 64) {Q : Bool → Shared → Prop}
    (hQ : ∀ b h' L' es' ep' t', Heap.SameBut a s.heap h' → RowSet P w h' a L' es' ep' t' → (k ∈ keysN L → L' = L) → (k ∉ keysN L → L'.Perm ((x, k) :: L)) → Q b { s with heap := h' }) : wpAny (model P w) A (setAddHashed a (.ref x) (rh w k)) Q E s := by
  obtain ⟨o, ho, hex, hd⟩ := R.obj
  unfold setAddHashed
  refine wpAny_holding ?_
  rw [show (100000 : Nat) = 99999 + 1 from rfl, setAddHashedIn_succ]
  refine wpAny_bind (wpAny_setState_of ho hd R.fit ?_)
  dsimp only
  refine wp_if_neg (by simp [byScan, Value.scannable]) ?_
  try refine wpAny_bind (wpAny_pure ?_)
  refine wpAny_bind (row_search R hx hu (fun hm => wpAny_pure (hQ false s.heap L es ep t (Heap.SameBut.refl a s.heap) R (fun _ => rfl) fun z => absurd hm z)) fun K hm hK hb => ?_)
  dsimp only
  refine wpAny_bind (wpAny_setState_of ho hd R.fit ?_)
  dsimp only
  have hspace := R.space
  obtain ⟨q1, q2, q3, q4, q5, q6, q7, q8, q9⟩ := R.tabOk.put hK hb
  generalize hpt : t.put (way t.mask (rh w k) K) = pt at q1 q3 q4 q5 q6 q7 q8 q9 ⊢
  obtain ⟨t1, p⟩ := pt
  dsimp only at q1 q3 q4 q5 q6 q7 q8 q9 ⊢
  subst q1
  have hin : (SetTable.insertAt es (SetTable.below t.place (way t.mask (rh w k) K)) (rh w k, Value.ref x)).toList = entriesN w (L.take (SetTable.below t.place (way t.mask (rh w k) K)) ++ (x, k) :: L.drop (SetTable.below t.place (way t.mask (rh w k) K))) := by
    rw [SetTable.toList_insertAt, R.ents]
    simp only [entriesN, List.map_append, List.map_cons, List.map_take, List.map_drop]
  generalize SetTable.below t.place (way t.mask (rh w k) K) = p at q2 q3 hin ⊢
  have pm := insert_perm L p (x, k)
  have hh : hashesN w (L.take p ++ (x, k) :: L.drop p) = (hashesN w L).take p ++ rh w k :: (hashesN w L).drop p := by
    simp only [hashesN, List.map_append, List.map_cons, List.map_take, List.map_drop]
  rw [← hh] at q3
  generalize L.take p ++ (x, k) :: L.drop p = L1 at pm q3 hin
  have hlen : L1.length = L.length + 1 := pm.length_eq
  have once1 : (keysN L1).Nodup := (pm.map _).nodup_iff.mpr (List.nodup_cons.mpr ⟨hm, R.once⟩)
  have hes := ents_size hin
  generalize SetTable.insertAt es p (rh w k, Value.ref x) = es1 at hin hes ⊢
  have fin : ∀ t2 : SetTable, TabOk t2 (hashesN w L1) → t2.mask = t.mask → t2.led = t.led → t2.fill = L.length + 1 → wpAny (model P w) A (storeSet a es1 t2 >>= fun _ => if (!false && t2.tooFull) = true then (setRelay a (SetTable.grown (es.size + 1)) >>= fun _ => pure true) else pure true) Q E s := fun t2 T em el ef => by
    refine wpAny_bind (wpAny_storeSet_of ho hd ?_ (by rw [hes, hlen, sizeLine_eq]; omega))
    have sb : Heap.SameBut a s.heap (s.heap.update a (Obj.putSet es1 t2)) := Heap.SameBut.update ..
    have ho1 := store_at (es' := es1) (t' := t2) ho hd
    generalize s.heap.update a (Obj.putSet es1 t2) = h1 at sb ho1 ⊢
    have row1 : ∀ p ∈ L1, RowAt P w h1 p.2 p.1 := fun p hp => by
      rcases List.mem_cons.mp (pm.mem_iff.mp hp) with rfl | hp
      · exact hx.same ho hd sb
      · exact (R.row p hp).same ho hd sb
    have led1 : w.params.followText "set-order" = true ∨ t2.led = true := by rw [el]; exact R.ledOr
    by_cases hf : t2.tooFull = true
    · have full : (L.length + 1) * 5 ≥ t.mask * 3 := by
        unfold SetTable.tooFull at hf
        rw [decide_eq_true_eq, ef, em] at hf
        exact hf
      have two : (t.mask = 7 ∧ L.length = 4) ∨ (t.mask = 31 ∧ L.length = 18) := by rcases R.tabOk.mok with e | e | e <;> omega
      have grow : ∀ M, SetTable.sizeAbove (SetTable.grown (L.length + 1)) - 1 = M → MaskOk M → SetTable.sizeAbove (SetTable.grown (L.length + 1)) ≤ 128 → (L.length + 1) * 5 < M * 3 →
          wpAny (model P w) A (if (!false && t2.tooFull) = true then (setRelay a (SetTable.grown (es.size + 1)) >>= fun _ => pure true) else pure true) Q E { s with heap := h1 } := fun M g1 g2 g3 g4 => by
        rw [if_pos (by simp [hf]), ents_size R.ents]
        have lo : Loose P w h1 a _ L1 es1 (ep + 1) t2 := ⟨ho1, ⟨hex.1, hex.2.1, hex.2.2⟩, rfl, hin, fits_rows T (by rw [hes]; simp) (by rw [em]; simp; omega), once1, row1, led1, by omega⟩
        refine wpAny_bind (row_relay (s := { s with heap := h1 }) lo g1 g2 g3 (by rw [hlen]; exact g4) fun h2 L2 es2 ep2 t3 sb2 R2 pm2 => ?_)
        exact wpAny_pure (hQ true h2 L2 es2 ep2 t3 (sb.trans sb2) R2 (fun z => absurd z hm) fun _ => pm2.trans pm)
      rcases two with ⟨_, e2⟩ | ⟨_, e2⟩
      · exact grow 31 (by rw [e2, size_20]) (.inr (.inl rfl)) (by rw [e2, size_20]; decide) (by omega)
      · exact grow 127 (by rw [e2, size_76]) (.inr (.inr rfl)) (by rw [e2, size_76]; decide) (by omega)
    · rw [if_neg (by simp [hf])]
      refine wpAny_pure (hQ true h1 L1 es1 (ep + 1) t2 sb ⟨⟨_, ho1, ⟨hex.1, hex.2.1, hex.2.2⟩, rfl⟩, hin, T, once1, row1, led1, ?_, by omega⟩ (fun z => absurd z hm) fun _ => pm)
      unfold SetTable.tooFull at hf
      rw [decide_eq_true_eq, ef] at hf
      omega
  have ef : t1.fill = L.length + 1 := by rw [q9, List.length_map]
  by_cases hp1 : t1.plain = true
  · simp only [hp1, if_true]
    refine wpAny_bind (row_by hx fun c => ?_)
    cases c
    · exact fin _ (tab_dull q3) q4 q5 ef
    · exact fin _ q3 q4 q5 ef
  · simp only [hp1, if_false]
    exact wpAny_bind (wpAny_pure (fin _ q3 q4 q5 ef))
end
end Z

/-! Z26: set(xs) of a list of rows. -/
namespace Z
open PySem L2 PySem.Spec PyProof.Rows
/-- the set holds just what the first i rows are -/
structure Held (ks : List Rw) (i : Nat) (L : List Rw) : Prop where
  sub : ∀ p ∈ L, p ∈ ks.take i
  all : ∀ p ∈ ks.take i, p.2 ∈ keysN L
  len : L.length ≤ i
theorem Held.start (ks : List Rw) : Held ks 0 [] := ⟨by simp, by simp, Nat.le_refl _⟩
theorem take_more {α : Type} {l : List α} {i : Nat} {x : α} (h : l[i]? = some x) : l.take (i + 1) = l.take i ++ [x] := by rw [List.take_add_one, h]; rfl
theorem Held.next {ks L L' : List Rw} {i : Nat} {x : Rw} (g : Held ks i L) (h : ks[i]? = some x) (h1 : x.2 ∈ keysN L → L' = L) (h2 : x.2 ∉ keysN L → L'.Perm (x :: L)) : Held ks (i + 1) L' := by
  have tk := take_more h
  by_cases hm : x.2 ∈ keysN L
  · rw [h1 hm]
    refine ⟨fun p hp => by rw [tk]; exact List.mem_append_left _ (g.sub p hp), fun p hp => ?_, Nat.le_succ_of_le g.len⟩
    rw [tk] at hp
    rcases List.mem_append.mp hp with z | z
    · exact g.all p z
    · rw [List.mem_singleton.mp z]; exact hm
  · have pm := h2 hm
    refine ⟨fun p hp => ?_, fun p hp => (pm.map _).mem_iff.mpr ?_, by rw [pm.length_eq]; exact Nat.succ_le_succ g.len⟩
    · rw [tk]
      rcases List.mem_cons.mp (pm.mem_iff.mp hp) with rfl | z
      · exact List.mem_append_right _ (by simp)
      · exact List.mem_append_left _ (g.sub p z)
    · rw [tk] at hp
      rcases List.mem_append.mp hp with z | z
      · exact List.mem_cons_of_mem _ (g.all p z)
      · rw [List.mem_singleton.mp z]; exact List.mem_cons_self
section
variable {P : Program} {w : World} {A : Around} {E : Value → Shared → Prop} {s : Shared}
theorem RowSet.keep {h h' : Heap} {a : Addr} {L : List Rw} {es : Array (Int × Value)} {ep : Nat} {t : SetTable} (R : RowSet P w h a L es ep t) (ha : ∀ o, h.get? a = some o → h'.get? a = some o) (hr : ∀ p ∈ L, RowAt P w h' p.2 p.1) : RowSet P w h' a L es ep t := by
  obtain ⟨o, ho, r⟩ := R.obj
  exact ⟨⟨o, ha o ho, r⟩, R.ents, R.tabOk, R.once, hr, R.ledOr, R.space, R.below⟩
theorem rowSet_new {h : Heap} {a : Addr} {d : Bool} (hd : d = !w.params.followText "set-order") (ho : h.get? a = some { cls := .type "set", dict := none, data := .set #[] 0 (.fresh 0 0 d) }) : RowSet P w h a [] #[] 0 (.fresh 0 0 d) where
  obj := ⟨_, ho, ⟨rfl, rfl, rfl⟩, rfl⟩
  ents := rfl
  tabOk := ⟨List.Pairwise.nil, rfl, rfl, .inl rfl, (by intro x hx; cases hx), (by intro i hh j hi; simp at hi)⟩
  once := List.nodup_nil
  row := by simp
  ledOr := by
    subst hd
    cases q : w.params.followText "set-order"
    · exact .inr rfl
    · exact .inl rfl
  space := (show 0 * 5 < 7 * 3 by decide)
  below := (show 0 < 64 by decide)
/-- the loop of set.update over rows -/
theorem rows_update {I : Addr} {fp wr : List Addr} {G : Array GenState → Array GenState → Prop} {n : Nat} {Pv : Nat → Value → Prop} {St : Nat → Shared → Prop} {R : Result → Shared → Prop} (W : WalksS P w A.in1 I fp wr G n Pv St) (S : Addr) (hSf : S ∉ fp)
    (ks : List Rw) (hn : n = ks.length) (hfew : ks.length < 64) (hval : ∀ i v, Pv i v → ∃ p, ks[i]? = some p ∧ v = .ref p.1) (h0 : Heap) (hk : ∀ p ∈ ks, RowAt P w h0 p.2 p.1) (hS0 : h0.get? S = none) (hw0 : ∀ b ∈ wr, h0.get? b = none) (hu : A.in1.units + 8 < cLine) :
    ∀ (m i : Nat) (s : Shared), n - i = m → i ≤ n → St i s → (∀ b o, h0.get? b = some o → s.heap.get? b = some o) → (∃ L es ep t, RowSet P w s.heap S L es ep t ∧ Held ks i L) →
      (∀ s' L es ep t, Moved (S :: wr) G s s' → RowSet P w s'.heap S L es ep t → Held ks n L → (∀ b o, h0.get? b = some o → s'.heap.get? b = some o) → R (.ok (.ret .none)) s') → codeAny (model P w) A (.builtin "set.update.loop" ⟨[.ref S, .ref I], []⟩) R s := by
  have hSw : S ∉ wr := fun h => hSf (W.sub _ h)
  have wide : ∀ b ∈ wr, b ∈ S :: wr := fun b hb => List.mem_cons_of_mem _ hb
  have stay : ∀ {s s' : Shared}, Moved wr G s s' → (∀ b o, h0.get? b = some o → s.heap.get? b = some o) → ∀ b o, h0.get? b = some o → s'.heap.get? b = some o := fun mv kp b o e => mv.heap b o (fun hb => by rw [hw0 b hb] at e; cases e) (kp b o e)
  intro m
  induction m with
  | zero =>
    intro i s hm hi hst kp ⟨L, es, ep, t, hS, g⟩ hR
    obtain rfl : i = n := by omega
    refine codeAny_builtin F.entry_set_update_loop ?_
    rw [Around.under_plainId F.plain_set_update_loop _]
    show wpAny _ A.in1 (pyNext (.ref I) >>= _) _ _ s
    refine wpAny_bind (W.done s _ _ hst fun s' mv => wpAny_pure (hR s' L es ep t (mv.mono wide) (hS.keep (fun o e => mv.heap S o hSw e) fun p hp => (hk p (List.mem_of_mem_take (g.sub p hp))).keep (stay mv kp)) g (stay mv kp)))
  | succ m ih =>
    intro i s hm hi hst kp ⟨L, es, ep, t, hS, g⟩ hR
    have hlt : i < n := by omega
    refine codeAny_builtin F.entry_set_update_loop ?_
    rw [Around.under_plainId F.plain_set_update_loop _]
    show wpAny _ A.in1 (pyNext (.ref I) >>= _) _ _ s
    refine wpAny_bind (W.item i s _ _ hlt hst fun v s' hP hst' mv => ?_)
    obtain ⟨p, hp, rfl⟩ := hval i v hP
    have kp' := stay mv kp
    have hS' : RowSet P w s'.heap S L es ep t := hS.keep (fun o e => mv.heap S o hSw e) fun q hq => (hk q (List.mem_of_mem_take (g.sub q hq))).keep kp'
    have hx : RowAt P w s'.heap p.2 p.1 := (hk p (List.mem_of_getElem? hp)).keep kp'
    show wpAny _ A.in1 (holding [Value.ref p.1] (setAdd S (.ref p.1)) >>= _) _ _ s'
    refine wpAny_bind (wpAny_holding ?_)
    unfold setAdd
    refine wpAny_holding (wpAny_bind ((nestedKind P w).pyHash hu hx.key ?_))
    refine row_add (s := { s' with toks := s'.toks + (nestedKind P w).draws p.2 }) hS' hx hu (by have := g.len; omega) fun b h' L' es' ep' t' sb hS2 c1 c2 => ?_
    have kp2 : ∀ b o, h0.get? b = some o → h'.get? b = some o := fun b o e => (sb.2 b (fun z => by rw [z, hS0] at e; cases e)).trans (kp' b o e)
    refine wpAny_pure ⟨plainId_quiet F.plain_set_update_loop _, ih (i + 1) _ (by omega) hlt (W.frame _ s' _ _ hst' (Nat.le_add_right _ _) fun b hb o e => ?_) kp2 ⟨L', es', ep', t', hS2, g.next hp c1 c2⟩ fun s'' L2 es2 ep2 t2 mv2 hS'' g'' kp'' => ?_⟩
    · rw [sb.2 b (fun h : b = S => hSf (h ▸ hb))]; exact e
    · refine hR s'' L2 es2 ep2 t2 (Moved.trans W.gtrans ((mv.mono wide).then_heap (Nat.le_add_right _ _) fun b o hb e => ?_) mv2) hS'' g'' kp''
      rw [sb.2 b (fun h : b = S => hb (by rw [h]; exact List.mem_cons_self))]; exact e
end
end Z

/-! Z27b: set(xs) of a tuple of rows. -/
namespace Z
open PySem L2 PySem.Spec PyProof.Rows
section
variable {P : Program} {w : World} {A : Around} {E : Value → Shared → Prop} {s : Shared}
theorem call_set_rowsT {l : Addr} {items : Array Value} (ks : List Rw) {Q : Value → Shared → Prop} (hh : A.handled = none) (hl : s.heap.IsTuple l items) (hit : items.toList = ks.map fun p => Value.ref p.1) (hk : ∀ p ∈ ks, RowAt P w s.heap p.2 p.1) (hfew : ks.length < 64) (hu : A.units + 12 < cLine)
    (h : ∀ (h' : Heap) (tk : Nat) L es ep t, RowSet P w h' s.heap.objs.size L es ep t → Held ks ks.length L → (∀ b o, s.heap.get? b = some o → h'.get? b = some o) → Q (.ref s.heap.objs.size) { s with heap := h', toks := tk }) : wpAny (model P w) A (call (.type "set") [.ref l]) Q E s := by
  have hn : items.size = ks.length := by rw [← Array.length_toList, hit, List.length_map]
  obtain ⟨c, tl, hmro⟩ := F.called_set.mro
  have hmade := F.called_set.made
  have hsub := F.called_set.sub
  have h1 := F.called_set.notType
  have h2 := F.called_set.canCreate
  have hct := F.typeCall_set_1 (.ref l)
  refine wpAny_call (codeAny_of_tree ?_)
  show wpAny _ _ (callAny (.type "set") _) _ _ _
  refine wpAny_pure ⟨Code.quiet_builtin _ (by decide +kernel), codeAny_builtin F.entry_type_call ?_⟩
  rw [Around.under_plain (weight_type_call_type "set" [.ref l] []) rfl]
  repeat (any_goals (first | assumption | wp_step))
  generalize hd0 : (!w.params.followText "set-order") = d0
  have hfresh : ∀ h : Heap, (h.push { cls := .type "set", dict := none, data := .set #[] 0 (.fresh 0 0 d0) }).get? h.objs.size = some { cls := .type "set", dict := none, data := .set #[] 0 (.fresh 0 0 d0) } := fun h => Heap.get?_push_size _ rfl
  refine codeAny_mono (code_set_led1 (.ref l) (E := E) (Q₁ := fun obj s₁ => obj = .ref s.heap.objs.size ∧ s₁ = { s with heap := s.heap.push { cls := .type "set", dict := none, data := .set #[] 0 (.fresh 0 0 d0) } }) (by subst hd0; exact ⟨rfl, rfl⟩)) fun r s₁ hr => ?_
  match r, hr with
  | .error e, hr => exact hr
  | .ok (.ret obj), hr =>
    obtain ⟨rfl, rfl⟩ := hr
    have hT : Shared.TypeIs { s with heap := s.heap.push { cls := .type "set", dict := none, data := .set #[] 0 (.fresh 0 0 d0) } } (.ref s.heap.objs.size) "set" := ⟨_, hfresh s.heap, rfl⟩
    have hli := F.called_set.init.lookup
    have hbi := F.called_set.init.bind (.ref s.heap.objs.size)
    repeat (any_goals (first | assumption | wp_step))
    have f1 := hfresh s.heap
    have f2 : ∀ b o, s.heap.get? b = some o → (s.heap.push { cls := .type "set", dict := none, data := .set #[] 0 (.fresh 0 0 d0) }).get? b = some o := fun b o e => Heap.get?_push_of_some _ e
    have f3 : (s.heap.push { cls := .type "set", dict := none, data := .set #[] 0 (.fresh 0 0 d0) }).objs.size = s.heap.objs.size + 1 := Heap.size_push ..
    clear hr hfresh
    generalize s.heap.push { cls := .type "set", dict := none, data := .set #[] 0 (.fresh 0 0 d0) } = N at f1 f2 f3 hT ⊢
    refine codeAny_mono (codeAny_call_builtin (R := wants (fun r s₂ => r = .none ∧ ∃ h' tk L es ep t, s₂ = { s with heap := h', toks := tk } ∧ RowSet P w h' s.heap.objs.size L es ep t ∧ Held ks ks.length L ∧ (∀ b o, s.heap.get? b = some o → h'.get? b = some o)) E) F.called_set.init.plain F.entry_set_init (check_set_init_1 hT ?_)) fun r₂ s₂ hr₂ => ?_
    · obtain ⟨ol, hol, hcl, nl, hdl⟩ := hl
      obtain ⟨ocls, odict, odata, oslots⟩ := ol
      simp only at hcl hdl
      subst hcl hdl
      have hol' := f2 l _ hol
      have hl1 : N.IsTuple l items := ⟨_, hol', rfl, nl, rfl⟩
      have hsls := F.sub_tuple_set
      have hslf := F.sub_tuple_frozenset
      have hne : (Value.type "tuple" == Value.type "dict") = false := by decide
      unfold Builtin.«set.__init__» noKeywords Builtin.Frozenset.updateFrom
      generalize hPI : pyIter = PI
      wp_walk
      subst hPI
      refine wpAny_pyIter_tuple hl1 (wpAny_bind (wpAny_runValue ?_))
      have lS : l < s.heap.objs.size := Heap.lt_size hol
      have gone : ∀ b, s.heap.objs.size ≤ b → s.heap.get? b = none := fun b hb => by
        cases q : s.heap.get? b with
        | none => rfl
        | some o => exact absurd (Heap.lt_size q) (Nat.not_lt_of_le hb)
      have hval : ∀ (i : Nat) (v : Value), items[i]? = some v → ∃ p, ks[i]? = some p ∧ v = .ref p.1 := fun i v hv => by
        rw [← Array.getElem?_toList, hit, List.getElem?_map, Option.map_eq_some_iff] at hv
        obtain ⟨p, e1, e2⟩ := hv
        exact ⟨p, e1, e2.symm⟩
      have hneI : l ≠ N.objs.size := by rw [f3]; exact Nat.ne_of_lt (Nat.lt_succ_of_lt lS)
      have hSf : s.heap.objs.size ∉ [N.objs.size, l] := by
        rw [f3]
        simp only [List.mem_cons, List.not_mem_nil, or_false, not_or]
        exact ⟨Nat.ne_of_lt (Nat.lt_succ_self _), Nat.ne_of_gt lS⟩
      have hh3 : A.in1.in1.in1.handled = none := by simp [hh]
      refine rows_update ((Walks.tuple hh3 _ l hneI items).toS) s.heap.objs.size hSf ks hn hfew hval s.heap hk (gone _ (Nat.le_refl _)) (fun b hb => gone b (by rw [List.mem_singleton.mp hb, f3]; exact Nat.le_succ _)) (by show A.units + 3 + 8 < cLine; omega) (items.size - 0) 0 _ (by omega) (Nat.zero_le _)
        ⟨⟨_, Heap.get?_push_size _ rfl, rfl, rfl⟩, (hl1.push _)⟩ (fun b o e => Heap.get?_push_of_some _ (f2 b o e)) ⟨[], #[], 0, _, rowSet_new hd0.symm (Heap.get?_push_of_some _ f1), Held.start ks⟩ fun s' L es ep t mv hS' g' kp => ?_
      obtain ⟨h', g2, d', tk', os'⟩ := s'
      obtain rfl : g2 = s.gens := mv.gens
      obtain rfl : d' = s.drawn := mv.drawn
      obtain rfl : os' = s.os := mv.os
      rw [hn] at g'
      show wpAny _ _ _ _ _ _
      refine wpAny_pure ?_
      show wpAny _ _ (ret Value.none) _ _ _
      exact wpAny_pure ⟨rfl, h', tk', L, es, ep, t, rfl, hS', g', kp⟩
    · match r₂, hr₂ with
      | .error e, hr₂ => exact hr₂
      | .ok (.ret r), hr₂ =>
        obtain ⟨rfl, h', tk, L, es, ep, t, rfl, hS', g', k'⟩ := hr₂
        repeat (any_goals (first | assumption | wp_step))
        exact h _ _ _ _ _ _ hS' g' k'
      | .ok .next, hr₂ | .ok .brk, hr₂ | .ok .cont, hr₂ => exact hr₂.elim
  | .ok .next, hr | .ok .brk, hr | .ok .cont, hr => exact hr.elim
end
end Z

/-! Z27: set(xs) is called. -/
namespace Z
open PySem L2 PySem.Spec PyProof.Rows
section
variable {P : Program} {w : World} {A : Around} {E : Value → Shared → Prop} {s : Shared}
theorem call_set_rows {l : Addr} {items : Array Value} (ks : List Rw) {Q : Value → Shared → Prop} (hh : A.handled = none) (hl : s.heap.IsList l items) (hit : items.toList = ks.map fun p => Value.ref p.1) (hk : ∀ p ∈ ks, RowAt P w s.heap p.2 p.1) (hfew : ks.length < 64) (hu : A.units + 12 < cLine)
    (h : ∀ (h' : Heap) (tk : Nat) L es ep t, RowSet P w h' s.heap.objs.size L es ep t → Held ks ks.length L → (∀ b o, s.heap.get? b = some o → h'.get? b = some o) → Q (.ref s.heap.objs.size) { s with heap := h', toks := tk }) : wpAny (model P w) A (call (.type "set") [.ref l]) Q E s := by
  have hn : items.size = ks.length := by rw [← Array.length_toList, hit, List.length_map]
  obtain ⟨c, tl, hmro⟩ := F.called_set.mro
  have hmade := F.called_set.made
  have hsub := F.called_set.sub
  have h1 := F.called_set.notType
  have h2 := F.called_set.canCreate
  have hct := F.typeCall_set_1 (.ref l)
  refine wpAny_call (codeAny_of_tree ?_)
  show wpAny _ _ (callAny (.type "set") _) _ _ _
  refine wpAny_pure ⟨Code.quiet_builtin _ (by decide +kernel), codeAny_builtin F.entry_type_call ?_⟩
  rw [Around.under_plain (weight_type_call_type "set" [.ref l] []) rfl]
  repeat (any_goals (first | assumption | wp_step))
  generalize hd0 : (!w.params.followText "set-order") = d0
  have hfresh : ∀ h : Heap, (h.push { cls := .type "set", dict := none, data := .set #[] 0 (.fresh 0 0 d0) }).get? h.objs.size = some { cls := .type "set", dict := none, data := .set #[] 0 (.fresh 0 0 d0) } := fun h => Heap.get?_push_size _ rfl
  refine codeAny_mono (code_set_led1 (.ref l) (E := E) (Q₁ := fun obj s₁ => obj = .ref s.heap.objs.size ∧ s₁ = { s with heap := s.heap.push { cls := .type "set", dict := none, data := .set #[] 0 (.fresh 0 0 d0) } }) (by subst hd0; exact ⟨rfl, rfl⟩)) fun r s₁ hr => ?_
  match r, hr with
  | .error e, hr => exact hr
  | .ok (.ret obj), hr =>
    obtain ⟨rfl, rfl⟩ := hr
    have hT : Shared.TypeIs { s with heap := s.heap.push { cls := .type "set", dict := none, data := .set #[] 0 (.fresh 0 0 d0) } } (.ref s.heap.objs.size) "set" := ⟨_, hfresh s.heap, rfl⟩
    have hli := F.called_set.init.lookup
    have hbi := F.called_set.init.bind (.ref s.heap.objs.size)
    repeat (any_goals (first | assumption | wp_step))
    have f1 := hfresh s.heap
    have f2 : ∀ b o, s.heap.get? b = some o → (s.heap.push { cls := .type "set", dict := none, data := .set #[] 0 (.fresh 0 0 d0) }).get? b = some o := fun b o e => Heap.get?_push_of_some _ e
    have f3 : (s.heap.push { cls := .type "set", dict := none, data := .set #[] 0 (.fresh 0 0 d0) }).objs.size = s.heap.objs.size + 1 := Heap.size_push ..
    clear hr hfresh
    generalize s.heap.push { cls := .type "set", dict := none, data := .set #[] 0 (.fresh 0 0 d0) } = N at f1 f2 f3 hT ⊢
    refine codeAny_mono (codeAny_call_builtin (R := wants (fun r s₂ => r = .none ∧ ∃ h' tk L es ep t, s₂ = { s with heap := h', toks := tk } ∧ RowSet P w h' s.heap.objs.size L es ep t ∧ Held ks ks.length L ∧ (∀ b o, s.heap.get? b = some o → h'.get? b = some o)) E) F.called_set.init.plain F.entry_set_init (check_set_init_1 hT ?_)) fun r₂ s₂ hr₂ => ?_
    · obtain ⟨ol, hol, hcl, nl, hdl⟩ := hl
      obtain ⟨ocls, odict, odata, oslots⟩ := ol
      simp only at hcl hdl
      subst hcl hdl
      have hol' := f2 l _ hol
      have hl1 : N.IsList l items := ⟨_, hol', rfl, nl, rfl⟩
      have hsls := F.sub_list_set
      have hslf := F.sub_list_frozenset
      have hne : (Value.type "list" == Value.type "dict") = false := by decide
      unfold Builtin.«set.__init__» noKeywords Builtin.Frozenset.updateFrom
      generalize hPI : pyIter = PI
      wp_walk
      subst hPI
      refine wpAny_pyIter_list hl1 (wpAny_bind (wpAny_runValue ?_))
      have lS : l < s.heap.objs.size := Heap.lt_size hol
      have gone : ∀ b, s.heap.objs.size ≤ b → s.heap.get? b = none := fun b hb => by
        cases q : s.heap.get? b with
        | none => rfl
        | some o => exact absurd (Heap.lt_size q) (Nat.not_lt_of_le hb)
      have hval : ∀ (i : Nat) (v : Value), items[i]? = some v → ∃ p, ks[i]? = some p ∧ v = .ref p.1 := fun i v hv => by
        rw [← Array.getElem?_toList, hit, List.getElem?_map, Option.map_eq_some_iff] at hv
        obtain ⟨p, e1, e2⟩ := hv
        exact ⟨p, e1, e2.symm⟩
      have hneI : l ≠ N.objs.size := by rw [f3]; exact Nat.ne_of_lt (Nat.lt_succ_of_lt lS)
      have hSf : s.heap.objs.size ∉ [N.objs.size, l] := by
        rw [f3]
        simp only [List.mem_cons, List.not_mem_nil, or_false, not_or]
        exact ⟨Nat.ne_of_lt (Nat.lt_succ_self _), Nat.ne_of_gt lS⟩
      have hh3 : A.in1.in1.in1.handled = none := by simp [hh]
      refine rows_update ((Walks.list hh3 _ l hneI items).toS) s.heap.objs.size hSf ks hn hfew hval s.heap hk (gone _ (Nat.le_refl _)) (fun b hb => gone b (by rw [List.mem_singleton.mp hb, f3]; exact Nat.le_succ _)) (by show A.units + 3 + 8 < cLine; omega) (items.size - 0) 0 _ (by omega) (Nat.zero_le _)
        ⟨⟨_, Heap.get?_push_size _ rfl, rfl, rfl⟩, (hl1.push _)⟩ (fun b o e => Heap.get?_push_of_some _ (f2 b o e)) ⟨[], #[], 0, _, rowSet_new hd0.symm (Heap.get?_push_of_some _ f1), Held.start ks⟩ fun s' L es ep t mv hS' g' kp => ?_
      obtain ⟨h', g2, d', tk', os'⟩ := s'
      obtain rfl : g2 = s.gens := mv.gens
      obtain rfl : d' = s.drawn := mv.drawn
      obtain rfl : os' = s.os := mv.os
      rw [hn] at g'
      show wpAny _ _ _ _ _ _
      refine wpAny_pure ?_
      show wpAny _ _ (ret Value.none) _ _ _
      exact wpAny_pure ⟨rfl, h', tk', L, es, ep, t, rfl, hS', g', kp⟩
    · match r₂, hr₂ with
      | .error e, hr₂ => exact hr₂
      | .ok (.ret r), hr₂ =>
        obtain ⟨rfl, h', tk, L, es, ep, t, rfl, hS', g', k'⟩ := hr₂
        repeat (any_goals (first | assumption | wp_step))
        exact h _ _ _ _ _ _ hS' g' k'
      | .ok .next, hr₂ | .ok .brk, hr₂ | .ok .cont, hr₂ => exact hr₂.elim
  | .ok .next, hr | .ok .brk, hr | .ok .cont, hr => exact hr.elim
end
end Z

/-! Z28: sorted(a set of rows). -/
namespace Z
open PySem L2 PySem.Spec PyProof.Rows
/-- a row stands ahead of another one -/
def ltK (x y : NestedKey) : Bool := PySem.W.dataLt x.data y.data
theorem ltK_irr (x : NestedKey) : ltK x x = false := lex_irrefl _
theorem ltK_trans {x y z : NestedKey} (h1 : ltK x y = true) (h2 : ltK y z = true) : ltK x z = true := lex_trans _ _ _ h1 h2
theorem perm_back {α β : Type} {f : α → β} {vs m : List β} (h : vs.Perm m) : ∀ L : List α, m = L.map f → ∃ bs : List α, bs.Perm L ∧ vs = bs.map f := by
  induction h with
  | nil => intro L e; exact ⟨L, .refl _, e⟩
  | cons x _ ih =>
    intro L e
    cases L with
    | nil => cases e
    | cons y r =>
      injection e with e1 e2
      obtain ⟨bs, p, rfl⟩ := ih r e2
      exact ⟨y :: bs, p.cons y, by rw [e1]; rfl⟩
  | swap x y l =>
    intro L e
    cases L with
    | nil => cases e
    | cons u r =>
      cases r with
      | nil => cases e
      | cons v r =>
        injection e with e1 e2
        injection e2 with e2 e3
        exact ⟨v :: u :: r, .swap u v r, by rw [e1, e2, e3]; rfl⟩
  | trans _ _ ih1 ih2 =>
    intro L e
    obtain ⟨b2, p2, e2⟩ := ih2 L e
    obtain ⟨b1, p1, e1⟩ := ih1 b2 e2
    exact ⟨b1, p1.trans p2, e1⟩
theorem atoms_read {h : Heap} : ∀ {ks : List NestedKey} {vs : List Value}, NestedAll h ks vs → (∀ v ∈ vs, AtomV v) → ReadsAll h vs (NestedKey.datas ks) [] ∧ PyData.depthAll (NestedKey.datas ks) = 0
  | [], _, x, _ => by
    cases x
    exact ⟨.nil, by simp [NestedKey.datas, PyData.depthAll]⟩
  | k :: ks, _, x, ha => by
    cases x with
    | @cons _ v _ vs x1 x2 =>
      obtain ⟨r1, r2⟩ := atoms_read x2 fun u hu => ha u (by simp [hu])
      rcases ha v (by simp) with ⟨i, t, rfl⟩ | ⟨y, t, rfl⟩
      · cases x1
        exact ⟨.cons (as := []) (.int i t) r1, by simp [NestedKey.datas, NestedKey.data, PyData.depthAll, PyData.depth, r2]⟩
      · cases x1
        exact ⟨.cons (as := []) (.str y t) r1, by simp [NestedKey.datas, NestedKey.data, PyData.depthAll, PyData.depth, r2]⟩
section
variable {P : Program} {w : World} {A : Around} {E : Value → Shared → Prop} {s : Shared}
theorem row_reads {h : Heap} {k : NestedKey} {b : Addr} (x : RowAt P w h k b) : Reads h (.ref b) k.data [] ∧ k.data.depth = 1 := by
  obtain ⟨o, vs, n, g1, g2, g3, g4⟩ := x.flat
  have q := x.key.1
  cases q with
  | tup h1 h2 h3 h4 =>
    cases h1.symm.trans g1
    cases h3.symm.trans g3
    obtain ⟨r1, r2⟩ := atoms_read h4 g4
    exact ⟨.tuple h1 h2 h3 r1, by simp [NestedKey.data, PyData.depth, r2]⟩
theorem each_refs {h : Heap} {T : Value → Rw → Prop} : ∀ (bs : List Rw), (∀ p ∈ bs, T (Value.ref p.1) p) → PySem.W.EachIs T (bs.map fun p => Value.ref p.1) bs
  | [], _ => .nil
  | p :: r, g => .cons (g p (by simp)) (each_refs (h := h) r fun q hq => g q (by simp [hq]))
theorem refs_each : ∀ {out : List Value} {bs : List Rw}, PySem.W.EachIs (fun v p => v = Value.ref p.1) out bs → out = bs.map fun p => Value.ref p.1
  | _, _, .nil => rfl
  | _, _, .cons e t => by rw [e, refs_each t]; rfl
theorem sorted_rows {a : Addr} {L : List Rw} {es : Array (Int × Value)} {ep : Nat} {t : SetTable} {Q : Value → Shared → Prop} (R : RowSet P w s.heap a L es ep t) (hh : A.handled = none) (hu : A.units + 12 < cLine) (hal : ∀ p ∈ L, ∀ q ∈ L, PySem.W.alike p.2.data q.2.data = true) (hne : ∀ p ∈ L, ∃ x r, p.2.data = .tuple (x :: r))
    (hQ : ∀ s' p (out : Array Value) (c : Nat) (L' : List Rw), (∀ b o, s.heap.get? b = some o → s'.heap.get? b = some o) → s'.gens = s.gens → s'.os = s.os → s.heap.objs.size ≤ p → s'.heap.get? p = some (seqObj "list" out c) → out.toList = L'.map (fun q => Value.ref q.1) → L'.Perm L → L'.Pairwise (fun q r => ltK r.2 q.2 = false) → Q (.ref p) s') :
    wpAny (model P w) A (call (.builtin "sorted") [.ref a]) Q E s := by
  obtain ⟨o, ho, hex, hd⟩ := R.obj
  have hb := R.below
  have hsz := ents_size R.ents
  refine Calls.call_function_entry kind_sorted plain_sorted entry_sorted (args_sorted1 _) ?_
  unfold Builtin.«sorted»
  refine wpAny_bind (m := checkCount "sorted" 1 1 _) (wpAny_pure ?_)
  refine wpAny_bind (collect_set (A := A.in1) hh ⟨o, ho, hex.1, hd⟩ R.fit (by unfold scanBound; omega) R.tabOk.ris R.ledOr fun s1 vs k1 hz1 g1 o1 pm => ?_)
  have hes : es.toList.map (·.2) = L.map fun q => Value.ref q.1 := by rw [R.ents, entriesN, List.map_map]; rfl
  rw [hes] at pm
  obtain ⟨bs, pb, rfl⟩ := perm_back pm L rfl
  have hbl : bs.length < 64 := by rw [pb.length_eq]; exact hb
  refine wpAny_bind (wpAny_newList ?_ (by rw [List.length_map, sizeLine_eq]; omega))
  have hoL : (s1.heap.push (seqObj "list" (bs.map fun q => Value.ref q.1).toArray 0)).get? s1.heap.objs.size = some (seqObj "list" (bs.map fun q => Value.ref q.1).toArray 0) := Heap.get?_push_size _ rfl
  have rowL : ∀ p ∈ bs, RowAt P w (s1.heap.push (seqObj "list" (bs.map fun q => Value.ref q.1).toArray 0)) p.2 p.1 := fun p hp => (R.row p (pb.mem_iff.mp hp)).keep fun b u e => Heap.get?_push_of_some _ (k1 b u e)
  refine wpAny_bind (wpAny_holding (PySem.W.list_sort_data (s := { s1 with heap := s1.heap.push (seqObj "list" (bs.map fun q => Value.ref q.1).toArray 0) }) (β := Rw) (enc := fun p => p.2.data) (R := fun v p => v = Value.ref p.1) (bs := bs) hoL (each_refs (h := s1.heap) bs fun p _ => rfl)
    (each_refs (h := s1.heap) bs fun p hp => ⟨[], (row_reads (rowL p hp)).1, by simp⟩) (fun d hd d' hd' => ?_) (.inl fun d hd => ?_) (by rw [sizeLine_eq]; omega) (fun p hp => by rw [(row_reads (rowL p hp)).2]; show A.units + 1 + 1 + 1 < cLine; omega) fun out ol oe => ?_))
  · obtain ⟨p, hp, rfl⟩ := List.mem_map.mp hd
    obtain ⟨q, hq, rfl⟩ := List.mem_map.mp hd'
    exact hal p (pb.mem_iff.mp hp) q (pb.mem_iff.mp hq)
  · obtain ⟨p, hp, rfl⟩ := List.mem_map.mp hd
    exact hne p (pb.mem_iff.mp hp)
  · obtain ⟨c, hc⟩ := sortedHeap_at (out := out.toArray) hoL
    refine wpAny_pure ⟨_, rfl, hQ _ s1.heap.objs.size out.toArray c (bs.mergeSort (PySem.W.dataLe false fun p => p.2.data)) (fun b u e => ?_) g1 o1 hz1 hc (by rw [List.toList_toArray]; exact refs_each oe) ((List.mergeSort_perm _ _).trans pb) ?_⟩
    · have q := k1 b u e
      have hlt := Heap.lt_size q
      show (sortedHeap (s1.heap.push (seqObj "list" (bs.map fun q => Value.ref q.1).toArray 0)) s1.heap.objs.size _ out.toArray).get? b = some u
      rw [sortedHeap_old (Nat.ne_of_lt hlt) (by rw [size_push']; exact Nat.lt_succ_of_lt hlt)]
      exact Heap.get?_push_of_some _ q
    · refine List.Pairwise.imp (fun {q r} hle => ?_) (PySem.W.sort_pairwise (PySem.W.sortLe_total (listOrd itemOrd) false fun p : Rw => PySem.W.keyToks p.2.data) bs)
      have e : (!ltK r.2 q.2) = true := hle
      simpa using e
end
end Z

/-! Z29: set(rows), sorted(it) as calls of the hand layer. -/
namespace Z
open PySem L2 PySem.Spec PyProof.Rows
def nk : Key → NestedKey
  | .inl i => .num i
  | .inr x => .text x
def rowK (ks : List Key) : NestedKey := .tup (ks.map nk)
theorem nk_inj {a b : Key} (h : nk a = nk b) : a = b := by
  cases a <;> cases b <;> simp only [nk] at h <;> first | (injection h with h; rw [h]) | cases h
theorem rowK_inj {a b : List Key} (h : rowK a = rowK b) : a = b := by
  unfold rowK at h
  injection h with h
  exact (List.map_inj_right fun _ _ e => nk_inj e).mp h
abbrev RwK := Addr × List Key
abbrev rwOf (p : RwK) : Rw := (p.1, rowK p.2)
theorem vals_atoms {h : Heap} : ∀ {ks : List Key} {us : List Value}, Vals (ks.map kV) us → NestedAll h (ks.map nk) us ∧ ∀ v ∈ us, AtomV v
  | [], _, .nil => ⟨.nil, by simp⟩
  | k :: ks, _, .cons r t => by
    obtain ⟨h1, h2⟩ := vals_atoms (h := h) t
    cases k with
    | inl i =>
      obtain ⟨tk, rfl⟩ := r
      exact ⟨.cons (.int i tk) h1, fun v hv => (List.mem_cons.mp hv).elim (fun e => e ▸ .inl ⟨i, tk, rfl⟩) (h2 v)⟩
    | inr x =>
      obtain ⟨tk, rfl⟩ := r
      exact ⟨.cons (.text x tk) h1, fun v hv => (List.mem_cons.mp hv).elim (fun e => e ▸ .inr ⟨x, tk, rfl⟩) (h2 v)⟩
theorem depth_nk : ∀ ks : List Key, NestedKey.depthAll (ks.map nk) = 0
  | [] => by simp [NestedKey.depthAll]
  | k :: ks => by cases k <;> simp [NestedKey.depthAll, NestedKey.depth, nk, depth_nk ks]
section
variable {X : Cx}
theorem inv_row {pins : List (Addr × Obj)} {σ : L2.St} {H : Hp} {s : Shared} {b : Addr} {k : List Key} (I : Inv X pins σ H s) (h : SqT X.K H b (k.map kV)) : RowAt X.prog X.w s.heap (rowK k) b := by
  obtain ⟨its, r, ⟨o, ho, hc, n, hd⟩, _⟩ := I.tuple h
  obtain ⟨h1, h2⟩ := vals_atoms (h := s.heap) r
  exact ⟨⟨.tup ho hc hd (by simpa using h1), by simp [rowK, NestedKey.depth, depth_nk]⟩, o, its.toArray, n, ho, hc, hd, by simpa using h2⟩
/-- the set at a, but for what the rows are -/
def RowS0 (P : Program) (w : World) (h : Heap) (a : Addr) (L : List Rw) : Prop := ∃ (es : Array (Int × Value)) (ep : Nat) (t : SetTable), (∃ o, h.get? a = some o ∧ o.ExactSet ∧ o.data = .set es ep t) ∧ es.toList = entriesN w L ∧ TabOk t (hashesN w L) ∧ (keysN L).Nodup ∧
  (w.params.followText "set-order" = true ∨ t.led = true) ∧ L.length * 5 < t.mask * 3 ∧ L.length < 64
def RowsO (P : Program) (w : World) (a : Addr) (L : List Rw) : HO := .ext fun h => RowS0 P w h a L
theorem RowSet.s0 {P : Program} {w : World} {h : Heap} {a : Addr} {L : List Rw} {es : Array (Int × Value)} {ep : Nat} {t : SetTable} (R : RowSet P w h a L es ep t) : RowS0 P w h a L := ⟨es, ep, t, R.obj, R.ents, R.tabOk, R.once, R.ledOr, R.space, R.below⟩
theorem rowsO_new {P : Program} {w : World} {H : Hp} {h : Heap} {a : Addr} {L : List Rw} (R : RowS0 P w h a L) : ObjOk P w H h a (RowsO P w a L) := by
  obtain ⟨es, ep, t, ⟨o, ho, r⟩, q⟩ := id R
  refine ⟨R, ⟨o, ho⟩, fun h1 h2 p k => ?_⟩
  obtain ⟨es', ep', t', ⟨o', ho', r'⟩, q'⟩ := p
  exact ⟨es', ep', t', ⟨o', k o' ho', r'⟩, q'⟩
theorem vals_rows : ∀ {ks : List RwK} {us : List Value}, Vals (ks.map fun p => V.ref p.1) us → us = (ks.map rwOf).map fun p => Value.ref p.1
  | [], _, .nil => rfl
  | p :: ks, _, .cons r t => by
    cases r
    rw [vals_rows t]; rfl
theorem rows_vals : ∀ (L : List Rw), Vals (L.map fun p => V.ref p.1) (L.map fun p => Value.ref p.1)
  | [] => .nil
  | p :: L => .cons rfl (rows_vals L)
/-- set(xs), xs a list or a tuple of rows -/
def rSetRows (X : Cx) : List V → Hp → VK → Prop := fun xs H Q => ∃ (l : Addr) (ks : List RwK), xs = [V.ref l] ∧ (SqL X.K H l (ks.map fun p => V.ref p.1) ∨ SqT X.K H l (ks.map fun p => V.ref p.1)) ∧ (∀ p ∈ ks, SqT X.K H p.1 (p.2.map kV)) ∧ ks.length < 64 ∧
  ∀ a L, H a = none → (∀ p ∈ L, p ∈ ks.map rwOf) → (∀ p ∈ ks, rowK p.2 ∈ keysN L) → Q (.ref a) (upd H a (RowsO X.prog X.w a L))
theorem cr_setRows (hc : X.calm = true) (hu : X.A.units + 64 < cLine) : CallR X (.type "set") (rSetRows X) := by
  intro pins s σ H xs us Q I r ⟨l, ks, e, hl, hk, hf, q⟩
  subst e
  rw [Vals.ref1 r]
  have hn : H s.heap.objs.size = none := I.hok.fresh (Nat.le_refl _)
  have rows : ∀ p ∈ ks.map rwOf, RowAt X.prog X.w s.heap p.2 p.1 := fun p hp => by
    obtain ⟨p0, h0, rfl⟩ := List.mem_map.mp hp
    exact inv_row I (hk p0 h0)
  have hf2 : (ks.map rwOf).length < 64 := by rw [List.length_map]; exact hf
  have fin : ∀ (h' : Heap) (tk : Nat) (L : List Rw) (es : Array (Int × Value)) (ep : Nat) (t : SetTable), RowSet X.prog X.w h' s.heap.objs.size L es ep t → Held (ks.map rwOf) (ks.map rwOf).length L → (∀ b o, s.heap.get? b = some o → h'.get? b = some o) → EP X pins σ Q (.ref s.heap.objs.size) { s with heap := h', toks := tk } := fun h' tk L es ep t R g k =>
    ⟨.ref s.heap.objs.size, upd H s.heap.objs.size (RowsO X.prog X.w s.heap.objs.size L), I.laid (t' := tk) k (Nat.le_refl _) (rowsO_new R.s0), rfl, q _ L hn (fun p hp => List.mem_of_mem_take (g.sub p hp)) fun p hp => g.all (rwOf p) (by rw [List.take_length]; exact List.mem_map.mpr ⟨p, hp, rfl⟩)⟩
  rcases hl with hl | hl
  · obtain ⟨its, rv, pl, _⟩ := I.list hl
    exact call_set_rows (ks.map rwOf) (I.ok.hd hc) pl.isList (by simpa using vals_rows rv) rows hf2 (by omega) fin
  · obtain ⟨its, rv, pt, _⟩ := I.tuple hl
    exact call_set_rowsT (ks.map rwOf) (I.ok.hd hc) (show s.heap.IsTuple l its.toArray from pt) (by simpa using vals_rows rv) rows hf2 (by omega) fin
/-- sorted(a set of rows) -/
def rSortRows (X : Cx) : List V → Hp → VK → Prop := fun vs H Q => ∃ (a : Addr) (L : List Rw), vs = [V.ref a] ∧ H a = some (RowsO X.prog X.w a L) ∧ (∀ p ∈ L, ∃ k, p.2 = rowK k ∧ SqT X.K H p.1 (k.map kV)) ∧ (∀ p ∈ L, ∀ q ∈ L, PySem.W.alike p.2.data q.2.data = true) ∧ (∀ p ∈ L, ∃ x r, p.2.data = .tuple (x :: r)) ∧
  ∀ (L' : List Rw) (p : Addr), L'.Perm L → (keysN L').Nodup → L'.Pairwise (fun q r => ltK r.2 q.2 = false) → H p = none → Q (.ref p) (upd H p (.lst (L'.map fun q => V.ref q.1)))
theorem cr_sortRows (hc : X.calm = true) (hu : X.A.units + 64 < cLine) : CallR X (.builtin "sorted") (rSortRows X) := by
  intro pins s σ H vs us Q I r ⟨a, L, e, ha, hk, hal, hne, q⟩
  subst e
  obtain ⟨es, ep, t, h1, h2, h3, h4, h5, h6, h7⟩ : RowS0 X.prog X.w s.heap a L := (I.hok a _ ha).1
  have R : RowSet X.prog X.w s.heap a L es ep t := ⟨h1, h2, h3, h4, fun p hp => by
    obtain ⟨k, e, hs⟩ := hk p hp
    rw [e]
    exact inv_row I hs, h5, h6, h7⟩
  rw [Vals.ref1 r]
  refine sorted_rows R (I.ok.hd hc) (by omega) hal hne fun s' p out c L' k g o hp hg hout pm pw => ?_
  have hlen : (L'.map fun q => V.ref q.1).length ≤ sizeLine := by rw [List.length_map, pm.length_eq, sizeLine_eq]; omega
  have hn : H p = none := I.hok.fresh hp
  have hv : Vals (L'.map fun q => V.ref q.1) out.toList := by rw [hout]; exact rows_vals L'
  have J : Inv X pins σ (upd H p (.lst (L'.map fun q => V.ref q.1))) { s with heap := s'.heap, gens := s'.gens, drawn := s'.drawn, toks := s'.toks } :=
    I.call (ch := []) (Un.laid k hp hn) (I.hok.laid k hp ⟨hlen, out.toList, c, hv, hg⟩) (by rw [g]; exact I.bare) (fun _ z => nomatch z)
  have e : s' = { s with heap := s'.heap, gens := s'.gens, drawn := s'.drawn, toks := s'.toks } := by
    cases s'
    cases s
    cases o
    rfl
  rw [e]
  exact ⟨.ref p, _, J, rfl, q L' p pm ((pm.map _).nodup_iff.mpr h4) pw hn⟩
end
end Z

/-! Z30: sorted(set(xs)), xs a list or a tuple of rows. -/
namespace Z
open PySem L2 PySem.Spec PyProof.Rows
def keyD : Key → D
  | .inl i => .int i
  | .inr x => .str x
def rowD (ks : List Key) : D := .tup (ks.map keyD)
def atomsD : List D → Option (List Key)
  | [] => some []
  | .int i :: ds => (atomsD ds).map (.inl i :: ·)
  | .str x :: ds => (atomsD ds).map (.inr x :: ·)
  | _ :: _ => none
def rowOfD : D → Option (List Key)
  | .tup ds => atomsD ds
  | _ => none
def rowsOfD : List D → Option (List (List Key))
  | [] => some []
  | d :: ds => (match rowOfD d, rowsOfD ds with
    | some k, some ks => some (k :: ks)
    | _, _ => none)
/-- a row ahead of another one; whether two can be compared -/
def ltR (a b : List Key) : Bool := ltK (rowK a) (rowK b)
def alikeR (a b : List Key) : Bool := PySem.W.alike (rowK a).data (rowK b).data
def insR (x : List Key) : List (List Key) → List (List Key)
  | [] => [x]
  | y :: ys => if ltR x y = true then x :: y :: ys else if ltR y x = true then y :: insR x ys else y :: ys
def sortR : List (List Key) → List (List Key)
  | [] => []
  | x :: xs => insR x (sortR xs)
theorem toks_inj {x y : PyData} (h : PySem.W.alike x y = true) (e : PySem.W.keyToks x = PySem.W.keyToks y) : PyData.eqv x y = true := by
  cases q : PyData.eqv x y with
  | true => rfl
  | false =>
    have t := (PySem.W.toks_eqv x y h).2 q [] [.inl 0]
    rw [List.append_nil, e, lex_irrefl] at t
    have u := PySem.W.lex_pre (PySem.W.keyToks y) [] [.inl 0]
    rw [List.append_nil] at u
    rw [u] at t
    cases t
theorem eqv_keys : ∀ {a b : List Key}, PyData.eqvAll (NestedKey.datas (a.map nk)) (NestedKey.datas (b.map nk)) = true → a = b
  | [], [], _ => rfl
  | [], _ :: _, h => by simp [NestedKey.datas, PyData.eqvAll] at h
  | _ :: _, [], h => by simp [NestedKey.datas, PyData.eqvAll] at h
  | x :: a, y :: b, h => by
    simp only [List.map_cons, NestedKey.datas, PyData.eqvAll, Bool.and_eq_true] at h
    rw [eqv_keys h.2]
    cases x <;> cases y <;> simp [nk, NestedKey.data, PyData.eqv] at h
    · rw [h.1]
    · rw [h.1]
theorem ltR_total {a b : List Key} (h : alikeR a b = true) (h1 : ltR a b = false) (h2 : ltR b a = false) : a = b := by
  have e := toks_inj h (lex_total _ _ h1 h2)
  simp only [rowK, NestedKey.data, PyData.eqv] at e
  exact eqv_keys e
theorem ltR_asym {a b : List Key} (h : ltR a b = true) : ltR b a = false := by
  cases q : ltR b a with
  | false => rfl
  | true =>
    have := ltK_trans h q
    rw [ltK_irr] at this
    cases this
theorem insR_mem {x z : List Key} : ∀ {l : List (List Key)}, (∀ y ∈ l, alikeR x y = true) → (z ∈ insR x l ↔ z = x ∨ z ∈ l)
  | [], _ => by simp [insR]
  | y :: ys, h => by
    unfold insR
    split
    · simp
    · rename_i q1
      split
      · have ih := insR_mem (z := z) (l := ys) fun u hu => h u (List.mem_cons_of_mem _ hu)
        rw [List.mem_cons, ih, List.mem_cons]
        exact ⟨fun e => e.elim (fun e => .inr (.inl e)) fun e => e.elim .inl fun e => .inr (.inr e), fun e => e.elim (fun e => .inr (.inl e)) fun e => e.elim .inl fun e => .inr (.inr e)⟩
      · rename_i q2
        have e := ltR_total (h y (by simp)) (by simpa using q1) (by simpa using q2)
        subst e
        simp
theorem insR_up {x : List Key} : ∀ {l : List (List Key)}, (∀ y ∈ l, alikeR x y = true) → l.Pairwise (fun a b => ltR a b = true) → (insR x l).Pairwise (fun a b => ltR a b = true)
  | [], _, _ => by simp [insR]
  | y :: ys, h, hp => by
    have hy := List.pairwise_cons.mp hp
    unfold insR
    split
    · rename_i q
      refine List.pairwise_cons.mpr ⟨fun z hz => ?_, hp⟩
      rcases List.mem_cons.mp hz with rfl | hz
      · exact q
      · exact ltK_trans q (hy.1 z hz)
    · split
      · rename_i q1 q
        refine List.pairwise_cons.mpr ⟨fun z hz => ?_, insR_up (fun u hu => h u (by simp [hu])) hy.2⟩
        rcases (insR_mem fun u hu => h u (by simp [hu])).mp hz with rfl | hz
        · exact q
        · exact hy.1 z hz
      · exact hp
theorem sortR_mem {z : List Key} : ∀ {l : List (List Key)}, (∀ x ∈ l, ∀ y ∈ l, alikeR x y = true) → (z ∈ sortR l ↔ z ∈ l)
  | [], _ => by simp [sortR]
  | x :: xs, h => by
    have ih : ∀ {z}, z ∈ sortR xs ↔ z ∈ xs := sortR_mem fun a ha b hb => h a (by simp [ha]) b (by simp [hb])
    simp only [sortR]
    rw [insR_mem fun y hy => h x (by simp) y (by simp [ih.mp hy]), ih, List.mem_cons]
theorem sortR_up : ∀ {l : List (List Key)}, (∀ x ∈ l, ∀ y ∈ l, alikeR x y = true) → (sortR l).Pairwise (fun a b => ltR a b = true)
  | [], _ => by simp [sortR]
  | x :: xs, h => by
    have h' : ∀ a ∈ xs, ∀ b ∈ xs, alikeR a b = true := fun a ha b hb => h a (by simp [ha]) b (by simp [hb])
    exact insR_up (fun y hy => h x (by simp) y (by simp [(sortR_mem h').mp hy])) (sortR_up h')
theorem one_order : ∀ {l m : List (List Key)}, l.Pairwise (fun a b => ltR a b = true) → m.Pairwise (fun a b => ltR a b = true) → (∀ z, z ∈ l ↔ z ∈ m) → l = m
  | [], [], _, _, _ => rfl
  | [], y :: m, _, _, h => by have := (h y).mpr (by simp); simp at this
  | x :: l, [], _, _, h => by have := (h x).mp (by simp); simp at this
  | x :: l, y :: m, h1, h2, h => by
    have p1 := List.pairwise_cons.mp h1
    have p2 := List.pairwise_cons.mp h2
    have e : x = y := by
      rcases List.mem_cons.mp ((h x).mp (by simp)) with a | a
      · exact a
      · rcases List.mem_cons.mp ((h y).mpr (by simp)) with b | b
        · exact b.symm
        · have := ltR_asym (p1.1 y b)
          rw [p2.1 x a] at this
          cases this
    subst e
    have irr : ltR x x = false := ltK_irr _
    rw [one_order p1.2 p2.2 fun z => ⟨fun hz => ?_, fun hz => ?_⟩]
    · rcases List.mem_cons.mp ((h z).mp (by simp [hz])) with rfl | q
      · have := p1.1 z hz; rw [irr] at this; cases this
      · exact q
    · rcases List.mem_cons.mp ((h z).mpr (by simp [hz])) with rfl | q
      · have := p2.1 z hz; rw [irr] at this; cases this
      · exact q
end Z

/-! Z31: sorted(set(xs)) of rows or of ints, as an expression. -/
namespace Z
open PySem L2 PySem.Spec
theorem atomsD_of : ∀ {ds : List D} {ks : List Key}, atomsD ds = some ks → ds = ks.map keyD
  | [], ks, h => by cases h; rfl
  | d :: ds, ks, h => by
    cases d <;> simp only [atomsD, Option.map_eq_some_iff, reduceCtorEq] at h
    · obtain ⟨ms, h1, rfl⟩ := h
      rw [atomsD_of h1]; rfl
    · obtain ⟨ms, h1, rfl⟩ := h
      rw [atomsD_of h1]; rfl
theorem vrs_atoms {K : PySem.W.Frag} {ρ : Pl} {H : Hp} : ∀ {vs : List V} {ks : List Key}, VRs K ρ H vs (ks.map keyD) → vs = ks.map kV
  | _, [], h => by cases h; rfl
  | _, k :: ks, h => by
    cases h with
    | cons r rs =>
      rw [vrs_atoms rs]
      cases k <;> (cases r; rfl)
theorem rowOfD_of {d : D} {k : List Key} (h : rowOfD d = some k) : d = rowD k := by
  cases d <;> simp only [rowOfD, reduceCtorEq] at h
  rw [atomsD_of h]; rfl
theorem rows_vrs {K : PySem.W.Frag} {ρ : Pl} {H : Hp} : ∀ {vs : List V} {ds : List D} {ks : List (List Key)}, VRs K ρ H vs ds → rowsOfD ds = some ks → ∃ M : List RwK, vs = M.map (fun p => V.ref p.1) ∧ M.map (fun p => p.2) = ks ∧ ∀ p ∈ M, SqT K H p.1 (p.2.map kV) ∧ VR K ρ H (.ref p.1) (rowD p.2)
  | _, _, ks, .nil, h => by cases h; exact ⟨[], rfl, rfl, by simp⟩
  | _, _, ks, .cons (ds := ds) r rs, h => by
    simp only [rowsOfD] at h
    split at h
    · rename_i k ms h1 h2
      cases h
      obtain ⟨M, e1, e2, e3⟩ := rows_vrs rs h2
      have e := rowOfD_of h1
      subst e
      obtain ⟨a, xs, rfl, g1, g2⟩ := tup_of r
      rw [vrs_atoms g2] at g1
      refine ⟨(a, k) :: M, by rw [e1]; rfl, by rw [← e2]; rfl, fun p hp => ?_⟩
      rcases List.mem_cons.mp hp with rfl | hp
      · exact ⟨g1, r⟩
      · exact e3 p hp
    · cases h
theorem vrs_of_rows {K : PySem.W.Frag} {ρ : Pl} {H : Hp} : ∀ (M : List RwK), (∀ p ∈ M, VR K ρ H (.ref p.1) (rowD p.2)) → VRs K ρ H (M.map fun p => V.ref p.1) (M.map fun p => rowD p.2)
  | [], _ => .nil
  | p :: M, h => .cons (h p (by simp)) (vrs_of_rows M fun q hq => h q (by simp [hq]))
theorem vrs_of_rw {K : PySem.W.Frag} {ρ : Pl} {H : Hp} (M : List RwK) (h : ∀ p ∈ M, VR K ρ H (.ref p.1) (rowD p.2)) : VRs K ρ H ((M.map rwOf).map fun q => V.ref q.1) ((M.map fun p => p.2).map rowD) := by
  rw [List.map_map, List.map_map]
  exact vrs_of_rows M h
theorem row_sq {K : PySem.W.Frag} {ρ : Pl} {H : Hp} {a : Addr} {k : List Key} (h : VR K ρ H (.ref a) (rowD k)) : SqT K H a (k.map kV) := by
  obtain ⟨a', xs, e, g1, g2⟩ := tup_of (show VR K ρ H (.ref a) (.tup (k.map keyD)) from h)
  cases e
  rw [vrs_atoms g2] at g1
  exact g1
theorem rows_among {ks : List RwK} : ∀ (L : List Rw), (∀ p ∈ L, p ∈ ks.map rwOf) → ∃ M : List RwK, L = M.map rwOf ∧ ∀ p ∈ M, p ∈ ks
  | [], _ => ⟨[], rfl, by simp⟩
  | p :: L, h => by
    obtain ⟨p0, h0, rfl⟩ := List.mem_map.mp (h p (by simp))
    obtain ⟨M, rfl, hM⟩ := rows_among L fun q hq => h q (by simp [hq])
    exact ⟨p0 :: M, rfl, fun q hq => (List.mem_cons.mp hq).elim (fun e => e ▸ h0) (hM q)⟩
/-- what must be true of the rows: few, none empty, each to be compared with each -/
def rowsOk (ks : List (List Key)) : Bool := decide (ks.length < 64) && ks.all fun a => !a.isEmpty && ks.all (alikeR a)
def dSortRows : D → Sto → R D := fun d S => match seqR d S with
  | some ds => match rowsOfD ds with
    | some ks => guardR (rowsOk ks = true) (.ok (.lst ((sortR ks).map rowD)) S)
    | none => .bad
  | none => .bad
theorem sorted_one {ks : List RwK} {L L' : List Rw} {M : List RwK} (hok : rowsOk (ks.map fun p => p.2) = true) (h1 : ∀ p ∈ L, p ∈ ks.map rwOf) (h2 : ∀ p ∈ ks, rowK p.2 ∈ keysN L) (pm : L'.Perm L) (nd : (keysN L').Nodup) (pw : L'.Pairwise fun q r => ltK r.2 q.2 = false) (e : L' = M.map rwOf) (hM : ∀ p ∈ M, p ∈ ks) :
    M.map (fun p => p.2) = sortR (ks.map fun p => p.2) := by
  simp only [rowsOk, Bool.and_eq_true, decide_eq_true_eq, List.all_eq_true] at hok
  have hal : ∀ x ∈ ks.map (fun p => p.2), ∀ y ∈ ks.map (fun p => p.2), alikeR x y = true := fun x hx => (hok.2 x hx).2
  subst e
  refine one_order ?_ (sortR_up hal) fun z => ?_
  · rw [List.pairwise_map] at pw ⊢
    have nd' : M.Pairwise fun p q => rowK p.2 ≠ rowK q.2 := by
      have : (M.map fun p => rowK p.2).Nodup := by simpa [keysN, List.map_map, Function.comp_def] using nd
      exact List.pairwise_map.mp this
    refine List.Pairwise.imp_of_mem (fun {p q} hp hq g => ?_) (pw.and nd')
    cases c : ltR p.2 q.2 with
    | true => rfl
    | false => exact absurd (congrArg rowK (ltR_total (hal _ (List.mem_map.mpr ⟨p, hM p hp, rfl⟩) _ (List.mem_map.mpr ⟨q, hM q hq, rfl⟩)) c g.1)) g.2
  · rw [sortR_mem hal]
    constructor
    · intro hz
      obtain ⟨p, hp, rfl⟩ := List.mem_map.mp hz
      exact List.mem_map.mpr ⟨p, hM p hp, rfl⟩
    · intro hz
      obtain ⟨p, hp, rfl⟩ := List.mem_map.mp hz
      have m1 := ((pm.map fun r : Rw => r.2).mem_iff (a := rowK p.2)).mpr (h2 p hp)
      obtain ⟨r, hr, er⟩ := List.mem_map.mp m1
      obtain ⟨p2, hp2, rfl⟩ := List.mem_map.mp hr
      exact List.mem_map.mpr ⟨p2, hp2, rowK_inj er⟩
section
variable {X : Cx} {W : WX} {e : Expr} {m : ME} {p p2 q pos : Pos}
theorem z_sortRows (hu : X.A.units + 100 < cLine) (hm : X.mg "sorted" = none) (hm2 : X.mg "set" = none) (he : PE X e (Em X.K W m)) (hc : X.calm = true := by rfl) (hg : Gl X "sorted" := by rfl) (hg2 : Gl X "set" := by rfl)
    (hs : starEach [e] X.env = (false, eval e X.env) :: starEach [] X.env := by rfl) (hs2 : starEach [.Call (.Name "set" p2) [e] [] q] X.env = (false, eval (.Call (.Name "set" p2) [e] [] q) X.env) :: starEach [] X.env := by rfl) (hpl : (backTo q (starEach [] X.env)).any (·.1) = false := by rfl) (hpl2 : (backTo pos (starEach [] X.env)).any (·.1) = false := by rfl) :
    PE X (.Call (.Name "sorted" p) [.Call (.Name "set" p2) [e] [] q] [] pos) (Em X.K W (mUn dSortRows m)) := by
  refine PE_imp (pe_callB (cr_sortRows hc (by omega)) hg hm PyProof.Rows.boot_sorted (pa_cons (pe_callTy (cr_setRows hc (by omega)) hg2 hm2 PyProof.Rows.boot_set (pa_cons he pa_nil hs) (he := hs) (hpl := hpl)) pa_nil hs2) (he := hs2) (hpl := hpl2)) fun σ H Q h => ?_
  obtain ⟨ρ, τ, S, s, r, p1⟩ := h
  refine Em_bind s r p1 fun ρ1 H1 S1 v d s1 r1 x1 v1 p1 => ?_
  unfold dSortRows at p1
  split at p1
  · rename_i ds e1
    obtain ⟨a, xs, rfl, h1, h2⟩ := seqR_of s1 v1 e1
    split at p1
    · rename_i kk e2
      obtain ⟨hok, p1⟩ := guardR_post p1
      obtain ⟨ks, rfl, rfl, hks⟩ := rows_vrs h2 e2
      have hok2 := hok
      simp only [rowsOk, Bool.and_eq_true, decide_eq_true_eq, List.all_eq_true] at hok2
      have hal : ∀ p ∈ ks, ∀ q ∈ ks, PySem.W.alike (rowK p.2).data (rowK q.2).data = true := fun p hp q hq => (hok2.2 p.2 (List.mem_map.mpr ⟨p, hp, rfl⟩)).2 q.2 (List.mem_map.mpr ⟨q, hq, rfl⟩)
      have hne : ∀ p ∈ ks, ∃ x r, (rowK p.2).data = .tuple (x :: r) := fun p hp => by
        have := (hok2.2 p.2 (List.mem_map.mpr ⟨p, hp, rfl⟩)).1
        cases q : p.2 with
        | nil => rw [q] at this; simp at this
        | cons k r => exact ⟨_, _, rfl⟩
      refine ⟨a, ks, rfl, h1, fun p hp => (hks p hp).1, by simpa using hok2.1, fun b L hb l1 l2 => ⟨b, L, rfl, upd_same, fun p hp => ?_, fun p hp q hq => ?_, fun p hp => ?_, fun L' c pm nd pw hc' => ?_⟩⟩
      · obtain ⟨p0, h0, rfl⟩ := List.mem_map.mp (l1 p hp)
        exact ⟨p0.2, rfl, row_sq (VR.mono (Ext.fresh (ρ := ρ1) hb) (hks p0 h0).2)⟩
      · obtain ⟨p0, h0, rfl⟩ := List.mem_map.mp (l1 p hp)
        obtain ⟨q0, g0, rfl⟩ := List.mem_map.mp (l1 q hq)
        exact hal p0 h0 q0 g0
      · obtain ⟨p0, h0, rfl⟩ := List.mem_map.mp (l1 p hp)
        exact hne p0 h0
      · obtain ⟨M, e, hM⟩ := rows_among L' fun p hp => l1 p (pm.mem_iff.mp hp)
        have es := sorted_one hok l1 l2 pm nd pw e hM
        subst e
        have xx := (Ext.fresh (ρ := ρ1) (o := RowsO X.prog X.w b L) hb).trans (Ext.fresh (o := .lst ((M.map rwOf).map fun q => V.ref q.1)) hc')
        refine p1 ρ1 _ _ xx ((s1.laid hb).laid hc') (.lst upd_same ((s1.laid hb).fresh hc') ?_)
        rw [← es]
        exact vrs_of_rw M fun p hp => VR.mono xx (hks p (hM p hp)).2
    · exact p1.elim
  · exact p1.elim
end
end Z

/-! Z32: dicts read: d[k], k in d, d.get(k), tests of texts. -/
namespace Z
open PySem L2

/-! ### rows of keys and things -/
section
variable {κ α : Type} [DecidableEq κ]
def valG (kvs : List (κ × α)) (k : κ) : Option α := (kvs.find? fun kv => decide (kv.1 = k)).map (·.2)
def putG (kvs : List (κ × α)) (k : κ) (v : α) : List (κ × α) :=
  if (kvs.any fun kv => decide (kv.1 = k)) = true then kvs.map (fun kv => if kv.1 = k then (kv.1, v) else kv) else kvs ++ [(k, v)]
def mergeG (kvs more : List (κ × α)) : List (κ × α) := more.foldl (fun acc kv => putG acc kv.1 kv.2) kvs
theorem valG_nil {k : κ} : valG ([] : List (κ × α)) k = none := rfl
theorem valG_cons {p : κ × α} {r : List (κ × α)} {k : κ} : valG (p :: r) k = if p.1 = k then some p.2 else valG r k := by
  unfold valG
  rw [List.find?_cons]
  by_cases e : p.1 = k <;> simp [e]
theorem valG_mem {kvs : List (κ × α)} {k : κ} {v : α} (h : valG kvs k = some v) : (k, v) ∈ kvs := by
  induction kvs with
  | nil => cases h
  | cons p r ih =>
    rw [valG_cons] at h
    by_cases e : p.1 = k
    · rw [if_pos e] at h; cases h; subst e; exact List.mem_cons_self
    · rw [if_neg e] at h; exact List.mem_cons_of_mem _ (ih h)
theorem valG_none_iff {kvs : List (κ × α)} {k : κ} : valG kvs k = none ↔ ∀ p ∈ kvs, p.1 ≠ k := by
  induction kvs with
  | nil => simp [valG_nil]
  | cons p r ih =>
    rw [valG_cons]
    by_cases e : p.1 = k
    · simp [e]
    · simp [e, ih]
end
section
variable {κ : Type} [DecidableEq κ] {P : V → D → Prop} {ws : List (κ × V)} {kvs : List (κ × D)} {k : κ}
/-- what two readings of a key say -/
def RelOD (P : V → D → Prop) : Option V → Option D → Prop
  | none, none => True
  | some v, some d => P v d
  | _, _ => False
theorem KR.val (h : KR P ws kvs) : RelOD P (valV ws k) (valG kvs k) := by
  induction h with
  | nil => exact True.intro
  | @cons k' v d vs ds h hs ih =>
    show RelOD P (valG ((k', v) :: vs) k) _
    rw [valG_cons, valG_cons]
    by_cases e : k' = k
    · rw [if_pos e, if_pos e]; exact h
    · rw [if_neg e, if_neg e]; exact ih
theorem RelOD.isSome {o : Option V} {u : Option D} (h : RelOD P o u) : o.isSome = u.isSome := by
  cases o <;> cases u <;> first | rfl | exact h.elim
theorem RelOD.get {o : Option V} {d : D} (h : RelOD P o (some d)) : ∃ v, o = some v ∧ P v d := by
  cases o with
  | none => exact h.elim
  | some v => exact ⟨v, rfl, h⟩
theorem KR.any (h : KR P ws kvs) : (ws.any fun kv => decide (kv.1 = k)) = kvs.any fun kv => decide (kv.1 = k) := by
  induction h with
  | nil => rfl
  | cons h hs ih => rw [List.any_cons, List.any_cons, ih]
theorem KR.app {ws' : List (κ × V)} {kvs' : List (κ × D)} (h : KR P ws kvs) (h' : KR P ws' kvs') : KR P (ws ++ ws') (kvs ++ kvs') := by
  induction h with
  | nil => exact h'
  | cons h hs ih => exact .cons h ih
theorem KR.putK {v : V} {d : D} (h : KR P ws kvs) (r : P v d) : KR P (L2.putK ws k v) (putG kvs k d) := by
  unfold L2.putK putG
  rw [h.any]
  split
  · rename_i hh
    clear hh
    induction h with
    | nil => exact .nil
    | @cons k' v' d' vs ds h hs ih =>
      rw [List.map_cons, List.map_cons]
      by_cases e : k' = k
      · simp only [e, if_true]; exact .cons r ih
      · simp only [e, if_false]; exact .cons h ih
  · exact h.app (.cons r .nil)
theorem KR.merge {ws : List (Key × V)} {kvs : List (Key × D)} {ms : List (Key × V)} {mds : List (Key × D)} (h : KR P ws kvs) (h' : KR P ms mds) : KR P (mergeK ws ms) (mergeG kvs mds) := by
  induction h' generalizing ws kvs with
  | nil => exact h
  | @cons k' v d vs ds r rs ih => exact ih (h.putK r)
end
theorem kr_zip {K : PySem.W.Frag} {ρ : Pl} {H : Hp} {κ : Type} : ∀ {ws : List (κ × V)} {ds : List D}, VRs K ρ H (ws.map (·.2)) ds → KR (VR K ρ H) ws (List.zip (ws.map (·.1)) ds)
  | [], ds, h => by cases h; exact .nil
  | p :: ws, ds, h => by
    cases h with
    | cons r rs => exact .cons r (kr_zip rs)

/-! ### what a dict holds -/
def kOf : D → Option Key
  | .int i => some (.inl i)
  | .str x => some (.inr x)
  | _ => none
theorem kOf_of {K : PySem.W.Frag} {ρ : Pl} {H : Hp} {v : V} {d : D} {k : Key} (r : VR K ρ H v d) (h : kOf d = some k) : v = kV k := by
  cases r <;> simp only [kOf, reduceCtorEq, Option.some.injEq] at h <;> subst h <;> rfl
theorem row_at {K : PySem.W.Frag} {ρ : Pl} {H : Hp} {v : V} {d : D} {k : List Key} (r : VR K ρ H v d) (h : rowOfD d = some k) : ∃ b, v = .ref b ∧ H b = some (.tup (k.map kV)) := by
  have e := rowOfD_of h
  subst e
  obtain ⟨a, xs, rfl, g1, g2⟩ := tup_at (show VR K ρ H v (.tup (k.map keyD)) from r)
  rw [vrs_atoms g2] at g1
  exact ⟨a, rfl, g1⟩
/-- what stands in the dict x at the key y: nothing said; not there; this -/
def dLook (x y : D) (S : Sto) : Option (Option D) := match x with
  | .loc l => (match S[l]? with
    | some (.dK _ kvs) => (kOf y).map fun k => valG kvs k
    | some (.dT _ kvs) => (rowOfD y).map fun k => valG kvs k
    | _ => none)
  | .dct ks ds => (kOf y).map fun k => valG (List.zip ks ds) k
  | _ => none
theorem dLook_of {K : PySem.W.Frag} {ρ : Pl} {H : Hp} {S : Sto} {x y : V} {dx dy : D} {o : Option D} (s : SR K ρ S H) (rx : VR K ρ H x dx) (ry : VR K ρ H y dy) (h : dLook dx dy S = some o) : ∃ a ov, x = .ref a ∧ DGet H a y ov ∧ RelOD (VR K ρ H) ov o := by
  cases rx with
  | dct h1 h2 hk hs =>
    simp only [dLook, Option.map_eq_some_iff] at h
    obtain ⟨k, e, rfl⟩ := h
    have := kOf_of ry e
    subst this
    exact ⟨_, _, rfl, DGet.k h1, by rw [← hk]; exact (kr_zip hs).val⟩
  | @loc a l hl =>
    simp only [dLook] at h
    split at h
    · rename_i lk kvs e
      simp only [Option.map_eq_some_iff] at h
      obtain ⟨k, ek, rfl⟩ := h
      have := kOf_of ry ek
      subst this
      have c := s.at hl e
      cases lk
      · obtain ⟨ws, h1, h2⟩ := c
        exact ⟨a, _, rfl, DGet.k h1, h2.val⟩
      · obtain ⟨o, ws, h1, h2⟩ := c
        exact ⟨a, valV ws k, rfl, .inl ⟨ws, k, .inr ⟨o, h1⟩, rfl, rfl⟩, h2.val⟩
    · rename_i lk kvs e
      simp only [Option.map_eq_some_iff] at h
      obtain ⟨k, ek, rfl⟩ := h
      obtain ⟨b, rfl, hb⟩ := row_at ry ek
      have c := s.at hl e
      cases lk
      · obtain ⟨ws, h1, h2⟩ := c
        exact ⟨a, _, rfl, DGet.t h1 hb, h2.val⟩
      · obtain ⟨o, ws, h1, h2⟩ := c
        exact ⟨a, valV ws k, rfl, .inr ⟨ws, k, b, .inr ⟨o, h1⟩, rfl, hb, rfl⟩, h2.val⟩
    · cases h
  | _ => simp [dLook] at h

/-! ### x[i], any x -/
def dIxA (x y : D) (S : Sto) : R D := match dLook x y S with
  | some o => ofO o S
  | none => dIx x y S
def rIxA (K : PySem.W.Frag) : R2 := fun x y H Q => rIx K x y H Q ∨ ∃ a v, x = .ref a ∧ DGet H a y (some v) ∧ Q v H
section
variable {X : Cx}
theorem ix_dict (hu : X.A.units + 100 < cLine) : IxR X (fun x y H Q => ∃ a v, x = .ref a ∧ DGet H a y (some v) ∧ Q v H) := by
  intro value slice pins s σ H x y v u Q I rx ry ⟨a, z, e, g, q⟩ hs
  subst e
  obtain rfl : v = Value.ref a := rx
  exact PyProof.Rows.tail_any (dict_typeIs I g) PySem.F.slot_dict_getitem.lookup (d_getItem (by omega) I g ry fun w' s' I' r => ⟨z, H, I', r, q⟩) hs
theorem ix_any (hu : X.A.units + 100 < cLine) : IxR X (rIxA X.K) := ix_seq.or (ix_dict hu)
theorem dIxA_ok {K : PySem.W.Frag} : OpS K dIxA (rIxA K) := fun Wk ρ S H x y dx dy Q s rx ry h => by
  unfold dIxA at h
  split at h
  · rename_i o e
    obtain ⟨d, e1, p⟩ := ofO_post h
    subst e1
    obtain ⟨a, ov, rfl, g, r⟩ := dLook_of s rx ry e
    obtain ⟨v, rfl, rv⟩ := r.get
    exact .inr ⟨a, v, rfl, g, p.here s rv⟩
  · exact .inl (dIx_ok Wk ρ S H x y dx dy Q s rx ry h)
variable {W : WX} {e a b : Expr} {ma mb : ME} {pos : Pos}
theorem z_ixA (hu : X.A.units + 100 < cLine) (ha : PE X a (Em X.K W ma)) (hb : PE X b (Em X.K W mb)) (hs : PlainIx b := by exact fun _ _ => rfl) : PE X (.Subscript a b pos) (Em X.K W (mBin dIxA ma mb)) :=
  PE_imp (pe_ix (ix_any hu) ha hb hs) fun σ H Q h => Em_op dIxA_ok h
end

/-! ### x in y, any y -/
/-- flat things as values -/
def flatD : D → Option V
  | .non => some .non
  | .bl b => some (.bl b)
  | .int i => some (.int i)
  | .str x => some (.str x)
  | _ => none
def flatDs : List D → Option (List V)
  | [] => some []
  | d :: ds => match flatD d, flatDs ds with
    | some v, some vs => some (v :: vs)
    | _, _ => none
theorem flatD_of {K : PySem.W.Frag} {ρ : Pl} {H : Hp} {v w : V} {d : D} (r : VR K ρ H v d) (h : flatD d = some w) : v = w ∧ flatV w = true := by
  cases r <;> simp only [flatD, reduceCtorEq, Option.some.injEq] at h <;> subst h <;> exact ⟨rfl, rfl⟩
theorem flatDs_of {K : PySem.W.Frag} {ρ : Pl} {H : Hp} : ∀ {vs ws : List V} {ds : List D}, VRs K ρ H vs ds → flatDs ds = some ws → vs = ws ∧ ws.all flatV = true
  | _, _, _, .nil, h => by simp only [flatDs, Option.some.injEq] at h; subst h; exact ⟨rfl, rfl⟩
  | _, _, _, .cons r rs, h => by
    simp only [flatDs] at h
    split at h
    · rename_i w ws h1 h2
      cases h
      obtain ⟨rfl, f1⟩ := flatD_of r h1
      obtain ⟨rfl, f2⟩ := flatDs_of rs h2
      exact ⟨rfl, by simp [f1] at f2 ⊢; exact f2⟩
    · cases h
/-- whether x is in y -/
def inP (x y : D) (S : Sto) : Option Bool := match dLook y x S with
  | some o => some o.isSome
  | none => (match x, y with
    | x, .ktup ds => (match flatD x, flatDs ds with
      | some v, some vs => some (inV v vs)
      | _, _ => none)
    | .str ⟨⟨[c]⟩⟩, .str z => some (decide (c ∈ z.cps.toList))
    | x, y => (match toPy x S, toPy y S with
      | some p, some q => if inB p q = true then some (inPy p q) else none
      | _, _ => none))
def dInA (x y : D) (S : Sto) : R D := ofO ((inP x y S).map .bl) S
def dNotInA (x y : D) (S : Sto) : R D := ofO ((inP x y S).map fun b => .bl (!b)) S
def rInA (X : Cx) (neg : Bool) : R2 := fun x y H Q => (∃ a o, y = .ref a ∧ DGet H a x o ∧ Q (.bl (if neg then !o.isSome else o.isSome)) H) ∨ rIn X.K neg x y H Q ∨
  (∃ (c : Nat) (z : Str), x = .str ⟨#[c]⟩ ∧ y = .str z ∧ Q (.bl (if neg then !decide (c ∈ z.cps.toList) else decide (c ∈ z.cps.toList))) H) ∨ rDat X InC (fun p q => if neg then !inPy p q else inPy p q) x y H Q
section
variable {X : Cx} (hu : X.A.units + 100 < cLine)
include hu
theorem op_inA : OpR X (compareOp .In) (rInA X false) := by
  refine OpR.or (r := fun x y H Q => ∃ a o, y = .ref a ∧ DGet H a x o ∧ Q (.bl o.isSome) H) ?_ (OpR.or op_in_seq (OpR.or op_in_sign (op_inP hu)))
  intro pins s σ H x y v u Q I rx ry ⟨a, o, e, g, q⟩
  subst e
  obtain rfl : u = Value.ref a := ry
  exact d_in (by omega) I g rx fun s' I' => ⟨.bl o.isSome, H, I', rfl, q⟩
theorem op_notInA : OpR X (compareOp .NotIn) (rInA X true) := by
  refine OpR.or (r := fun x y H Q => ∃ a o, y = .ref a ∧ DGet H a x o ∧ Q (.bl (!o.isSome)) H) ?_ (OpR.or op_notIn_seq (OpR.or op_notIn_sign (op_notInP hu)))
  intro pins s σ H x y v u Q I rx ry ⟨a, o, e, g, q⟩
  subst e
  obtain rfl : u = Value.ref a := ry
  exact d_notIn (by omega) I g rx fun s' I' => ⟨.bl (!o.isSome), H, I', rfl, q⟩
end
theorem inP_of {X : Cx} {ρ : Pl} {H : Hp} {S : Sto} {x y : V} {dx dy : D} {b : Bool} {neg : Bool} {Q : VK} (s : SR X.K ρ S H) (rx : VR X.K ρ H x dx) (ry : VR X.K ρ H y dy) (h : inP dx dy S = some b) (q : Q (.bl (if neg then !b else b)) H) : rInA X neg x y H Q := by
  unfold inP at h
  split at h
  · rename_i o e
    obtain ⟨a, ov, rfl, g, r⟩ := dLook_of s ry rx e
    cases h
    exact .inl ⟨a, ov, rfl, g, by rw [r.isSome]; exact q⟩
  · split at h
    · split at h
      · rename_i v vs h1 h2
        cases h
        obtain ⟨p, xs, rfl, g1, g2⟩ := ktup_of ry
        obtain ⟨rfl, f1⟩ := flatD_of rx h1
        obtain ⟨rfl, f2⟩ := flatDs_of g2 h2
        exact .inr (.inl ⟨p, xs, rfl, .inr g1, f1, f2, q⟩)
      · cases h
    · cases h
      cases rx; cases ry
      exact .inr (.inr (.inl ⟨_, _, rfl, rfl, q⟩))
    · split at h
      · rename_i p r h1 h2
        split at h
        · rename_i c
          cases h
          exact .inr (.inr (.inr ⟨p, r, rdP_of s rx h1, rdP_of s ry h2, inB_C _ _ c, q⟩))
        · cases h
      · cases h
theorem c_inA {X : Cx} (hu : X.A.units + 100 < cLine) : CmpZ X .In dInA := ⟨_, op_inA hu, fun Wk ρ S H x y dx dy Q s rx ry h => by
  obtain ⟨z, e, p⟩ := ofO_post h
  simp only [Option.map_eq_some_iff] at e
  obtain ⟨b, e1, rfl⟩ := e
  exact inP_of s rx ry e1 (p.here s (.bl _))⟩
theorem c_ninA {X : Cx} (hu : X.A.units + 100 < cLine) : CmpZ X .NotIn dNotInA := ⟨_, op_notInA hu, fun Wk ρ S H x y dx dy Q s rx ry h => by
  obtain ⟨z, e, p⟩ := ofO_post h
  simp only [Option.map_eq_some_iff] at e
  obtain ⟨b, e1, rfl⟩ := e
  exact inP_of s rx ry e1 (p.here s (.bl _))⟩

/-! ### d.get(k), d.get(k, x) -/
def dGet1 : D → List D → Sto → R D
  | d, [y], S => (match dLook d y S with
    | some o => .ok (o.getD .non) S
    | none => .bad)
  | _, _, _ => .bad
def dGet2 : D → List D → Sto → R D
  | d, [y, z], S => (match dLook d y S with
    | some o => .ok (o.getD z) S
    | none => .bad)
  | _, _, _ => .bad
def rGet1 : V → List V → Hp → VK → Prop := fun x vs H Q => ∃ a y o, x = .ref a ∧ vs = [y] ∧ DGet H a y o ∧ Q (o.getD .non) H
section
variable {X : Cx} {W : WX} {o e f : Expr} {m : ME} {ms : MA} {apos cpos : Pos}
theorem mt_get1 (hu : X.A.units + 100 < cLine) : MtR X "dict.get" rGet1 := by
  intro pins s σ H x xs v us Q I rx rs ⟨a, y, o, e1, e2, g, q⟩
  subst e1 e2
  obtain rfl : v = Value.ref a := rx
  obtain ⟨u, rfl, ru⟩ := Vals.one rs
  exact d_get1 (by omega) I g ru fun w' s' I' r => ⟨_, H, I', r, q⟩
theorem dGet1_ok {K : PySem.W.Frag} : MethS K dGet1 rGet1 := fun Wk ρ S H v d vs ds Q s r rs h => by
  unfold dGet1 at h
  split at h
  · obtain ⟨y, rfl, ry⟩ := vrs1 rs
    split at h
    · rename_i o e
      obtain ⟨a, ov, rfl, g, r2⟩ := dLook_of s r ry e
      refine ⟨a, y, ov, rfl, rfl, g, h.here s ?_⟩
      cases ov <;> cases o <;> first | exact .non | exact r2 | exact r2.elim
    · exact h.elim
  · exact h.elim
end
end Z

/-! Z33: dicts written: displays, d[k] = v, d.update(e); targets of several kinds. -/
namespace Z
open PySem L2 PySem.Spec

/-! ### stores -/
def dPut (a k y : D) (S : Sto) : Option Sto := match a with
  | .loc l => (match S[l]? with
    | some (.lst ds) => (match k with
      | .int n => (ixN ds.length n).map fun j => S.set l (.lst (ds.set j y))
      | _ => none)
    | some (.dK false kvs) => if kvs.length < sizeLine then (kOf k).map fun kk => S.set l (.dK false (putG kvs kk y)) else none
    | some (.dT false kvs) => if kvs.length < sizeLine then (rowOfD k).map fun kk => S.set l (.dT false (putG kvs kk y)) else none
    | _ => none)
  | _ => none
def rSetA : V → V → V → Hp → (Hp → Prop) → Prop := fun o i v H Q => rSetL o i v H Q ∨ ∃ a H', o = .ref a ∧ DPut H a i v H' ∧ Q H'
theorem set_any {X : Cx} (hu : X.A.units + 100 < cLine) : PSet X rSetA := by
  intro pins s σ H o i v ov iv u Q I ro ri rv h
  rcases h with h | ⟨a, H', e, g, q⟩
  · exact set_list pins s σ H o i v ov iv u Q I ro ri rv h
  · subst e
    obtain rfl : ov = Value.ref a := ro
    exact d_setItem (by omega) I g ri rv fun s' I' => ⟨H', I', q⟩
theorem dPut_of {K : PySem.W.Frag} {ρ : Pl} {H : Hp} {S S' : Sto} {a k y : V} {da dk dy : D} {Q : Hp → Prop} (s : SR K ρ S H) (ra : VR K ρ H a da) (rk : VR K ρ H k dk) (ry : VR K ρ H y dy) (h : dPut da dk dy S = some S')
    (q : ∀ H', Ext ρ H ρ H' → SR K ρ S' H' → Q H') : rSetA a k y H Q := by
  cases ra with
  | @loc p l hl =>
    simp only [dPut] at h
    split at h
    · rename_i ds e
      split at h
      · rename_i n
        simp only [Option.map_eq_some_iff] at h
        obtain ⟨j, ej, rfl⟩ := h
        cases rk
        obtain ⟨xs, k1, k2⟩ := s.at hl e
        exact .inl ⟨p, xs, _, j, rfl, rfl, k1, by rw [k2.length]; exact ej, q _ (Ext.set hl (.of k1)) (s.set hl ⟨_, upd_same, (k2.set ry j).mono (Ext.set hl (.of k1))⟩)⟩
      · cases h
    · rename_i kvs e
      split at h
      · rename_i hz
        simp only [Option.map_eq_some_iff] at h
        obtain ⟨kk, ek, rfl⟩ := h
        have := kOf_of rk ek
        subst this
        obtain ⟨ws, k1, k2⟩ := s.at hl e
        have x : Ext ρ H ρ (upd H p (.dK (putK ws kk y))) := Ext.set hl (.of k1)
        exact .inr ⟨p, _, rfl, DPut.k k1 (by rw [k2.length]; exact hz), q _ x (s.set hl ⟨_, upd_same, (k2.putK ry).mono fun _ _ r => VR.mono x r⟩)⟩
      · cases h
    · rename_i kvs e
      split at h
      · rename_i hz
        simp only [Option.map_eq_some_iff] at h
        obtain ⟨kk, ek, rfl⟩ := h
        obtain ⟨b, rfl, hb⟩ := row_at rk ek
        obtain ⟨ws, k1, k2⟩ := s.at hl e
        have x : Ext ρ H ρ (upd H p (.dT (putK ws kk y))) := Ext.set hl (.of k1)
        exact .inr ⟨p, _, rfl, DPut.t k1 hb (by rw [k2.length]; exact hz), q _ x (s.set hl ⟨_, upd_same, (k2.putK ry).mono fun _ _ r => VR.mono x r⟩)⟩
      · cases h
    · cases h
  | _ => simp [dPut] at h

/-! ### targets -/
inductive TgS where
  | nm (i : Nat) | sub (o i : ME)
def asgS : TgS → D → Tau → Sto → (Tau → Sto → RS) → RS
  | .nm i, d, τ, S, k => k (τ.set i (some d)) S
  | .sub o i, d, τ, S, k => liftS (o τ S) τ fun a S2 => liftS (i τ S2) τ fun x S3 => match dPut a x d S3 with
    | some S4 => k τ S4
    | none => .bad
def asgAll : List TgS → List D → MS
  | [], [], τ, S => .nx τ S
  | t :: ts, d :: ds, τ, S => asgS t d τ S fun τ' S' => asgAll ts ds τ' S'
  | _, _, _, _ => .bad
/-- d[k] = v -/
def sSubA (o i v : ME) : MS := fun τ S => liftS (v τ S) τ fun y S1 => asgS (.sub o i) y τ S1 fun τ S => .nx τ S
/-- a, b[c], .. = e -/
def sTupS (ts : List TgS) (m : ME) : MS := fun τ S => liftS (m τ S) τ fun d S1 => match d with
  | .tup ds => if ds.length = ts.length then asgAll ts ds τ S1 else .bad
  | _ => .bad
def gS (K : PySem.W.Frag) (W : WX) : TgS → TG
  | .nm i => gName i
  | .sub o i => gSub (Em K W o) (Em K W i) rSetA
section
variable {K : PySem.W.Frag} {W : WX}
theorem asgS_of {t : TgS} {d : D} {v : V} {τ : Tau} {S : Sto} {σ : St} {H : Hp} {ρ : Pl} {k : Tau → Sto → RS} {D' : Ends} {Q : St → Hp → Prop} (s : SR K ρ S H) (r : ER K ρ H τ σ) (rv : VR K ρ H v d) (h : PostS K W ρ H σ (asgS t d τ S k) D')
    (q : ∀ ρ1 H1 τ1 S1 σ1, Ext ρ H ρ1 H1 → SR K ρ1 S1 H1 → ER K ρ1 H1 τ1 σ1 → PostS K W ρ1 H1 σ1 (k τ1 S1) D' → Q σ1 H1) : gS K W t v σ H Q := by
  cases t with
  | nm i => exact q ρ H _ S _ Ext.refl s (r.set i rv) h
  | sub o i =>
    refine Em_S (k := fun _ _ => .bad) s r h fun ρ1 H1 S1 a da s1 r1 e1 v1 p1 => ?_
    refine Em_S (k := fun _ _ => .bad) s1 r1 p1 fun ρ2 H2 S2 x dx s2 r2 e2 v2 p2 => ?_
    split at p2
    · rename_i S4 e
      exact dPut_of s2 (v1.mono e2) v2 ((rv.mono e1).mono e2) e fun H' e3 s3 => q ρ2 H' τ S4 σ ((e1.trans e2).trans e3) s3 (r2.mono e3) (PostS.ext e3 p2)
    · exact p2.elim
end
section
variable {X : Cx} {W : WX} {e tg o i v : Expr} {m mo mi mv : ME} {pos pos' : Pos}
theorem s_subA (hu : X.A.units + 100 < cLine) (ho : PE X o (Em X.K W mo)) (hi : PE X i (Em X.K W mi)) (hv : PE X v (Em X.K W mv)) (ha : ∀ z, assign (.Subscript o i pos') X.env z = (do
      let ov ← holding [z] (eval o X.env)
      let iv ← holding [z, ov] (eval i X.env)
      standAt pos'
      holding [z, ov, iv] (setItem ov iv z)
      release [z, ov, iv] []) := by intro _; rfl) (hs : swapsWithSole [.Subscript o i pos'] v pos.line X.env = pure false := by rfl) (hw : swappedStores [.Subscript o i pos'] v X.env = pure none := by rfl)
    (h1 : (assignEach [.Subscript o i pos'] X.env).map (·.2) = [assign (.Subscript o i pos') X.env] := by rfl) : PS X (.Assign [.Subscript o i pos'] v pos) (Sm X.K W (sSubA mo mi mv)) :=
  PS_imp (ps_asg hv (pg_sub ho hi (set_any hu) ha) hs hw h1) fun D σ H ⟨ρ, τ, S, s, r, p⟩ =>
    Em_S (k := fun _ _ => .bad) s r p fun ρ1 H1 S1 y dy s1 r1 e1 v1 p1 => asgS_of (t := .sub mo mi) s1 r1 v1 p1 fun ρ2 H2 τ2 S2 σ2 e2 s2 r2 p2 => PostS.here p2 s2 r2
end

/-! ### displays -/
section
variable {K : PySem.W.Frag} {ρ ρ' : Pl} {H : Hp} {S : Sto}
mutual
/-- fewer addresses are the store's, the places stand -/
theorem VR.sub (hm : ∀ a, a ∈ ρ' → a ∈ ρ) (hl : ∀ (l : Nat) a, ρ.loc[l]? = some a → ρ'.loc[l]? = some a) : ∀ {v : V} {d : D}, VR K ρ H v d → VR K ρ' H v d
  | _, _, .non => .non
  | _, _, .bl b => .bl b
  | _, _, .int i => .int i
  | _, _, .str x => .str x
  | _, _, .tup h h2 hs => .tup h (fun z => h2 (hm _ z)) (VRs.sub hm hl hs)
  | _, _, .ktup h hs => .ktup h (VRs.sub hm hl hs)
  | _, _, .lst h h2 hs => .lst h (fun z => h2 (hm _ z)) (VRs.sub hm hl hs)
  | _, _, .dct h h2 hk hs => .dct h (fun z => h2 (hm _ z)) hk (VRs.sub hm hl hs)
  | _, _, .scr h hs => .scr (h.imp (fun ⟨o, h1, h2⟩ => ⟨o, h1, fun z => h2 (hm _ z)⟩) id) (VRs.sub hm hl hs)
  | _, _, .loc h => .loc (hl _ _ h)
  | _, _, .ob v => .ob v
  | _, _, .fn h => .fn h
theorem VRs.sub (hm : ∀ a, a ∈ ρ' → a ∈ ρ) (hl : ∀ (l : Nat) a, ρ.loc[l]? = some a → ρ'.loc[l]? = some a) : ∀ {vs : List V} {ds : List D}, VRs K ρ H vs ds → VRs K ρ' H vs ds
  | _, _, .nil => .nil
  | _, _, .cons h hs => .cons (VR.sub hm hl h) (VRs.sub hm hl hs)
end
def Pl.show (ρ : Pl) (p : Addr) : Pl := (ρ.bare p).push p
theorem Pl.show_mem {p : Addr} (hp : p ∈ ρ.hid) : ∀ a, a ∈ ρ.show p → a ∈ ρ := fun a h => by
  rcases h with h | h
  · rcases List.mem_append.mp (show a ∈ ρ.loc ++ [p] from h) with z | z
    · exact .inl z
    · have : a = p := by simpa using z
      subst this; exact .inr hp
  · exact .inr (List.mem_filter.mp h).1
theorem Pl.show_loc {p : Addr} : ∀ (l : Nat) a, ρ.loc[l]? = some a → (ρ.show p).loc[l]? = some a := fun l a h => by
  show (ρ.loc ++ [p])[l]? = some a
  rw [List.getElem?_append_left (List.getElem?_eq_some_iff.mp h).1]; exact h
theorem SR.show (r : SR K ρ S H) {p : Addr} {c : C} (hp : p ∈ ρ.hid) (hc : CR K (ρ.show p) H p c) : SR K (ρ.show p) (S ++ [c]) H := by
  refine ⟨by simp [Pl.show, Pl.push, Pl.bare, r.len], ?_, fun a ha => ?_, fun l d e => ?_⟩
  · show (ρ.loc ++ [p]).Nodup
    rw [List.nodup_append]
    refine ⟨r.nd, by simp, fun a ha b hb => ?_⟩
    have : b = p := by simpa using hb
    subst this
    rintro rfl
    exact (r.hd _ hp).1 ha
  · obtain ⟨ha1, ha2⟩ := List.mem_filter.mp (show a ∈ ρ.hid.filter _ from ha)
    obtain ⟨h1, u, hu, n'⟩ := r.hd a ha1
    refine ⟨fun q => ?_, u, hu, n'⟩
    rcases List.mem_append.mp (show a ∈ ρ.loc ++ [p] from q) with z | z
    · exact h1 z
    · exact of_decide_eq_true ha2 (by simpa using z)
  · by_cases hl : l < S.length
    · rw [List.getElem?_append_left hl] at e
      obtain ⟨a, h1, h2⟩ := r.cell l d e
      refine ⟨a, Pl.show_loc _ _ h1, h2.map (fun _ _ => VR.sub (Pl.show_mem hp) Pl.show_loc) (fun _ _ => VRs.sub (Pl.show_mem hp) Pl.show_loc) (fun c o e _ z => ⟨e, fun y => z (Pl.show_mem hp _ y)⟩) rfl⟩
    · have e2 : l = S.length := by
        have := (List.getElem?_eq_some_iff.mp e).1
        simp at this; omega
      subst e2
      rw [List.getElem?_append_right (Nat.le_refl _)] at e
      simp at e
      subst e
      refine ⟨p, ?_, hc⟩
      show (ρ.loc ++ [p])[S.length]? = some p
      rw [← r.len, List.getElem?_append_right (Nat.le_refl _)]; simp
theorem Pl.show_get {p : Addr} (r : SR K ρ S H) : (ρ.show p).loc[S.length]? = some p := by
  show (ρ.loc ++ [p])[S.length]? = some p
  rw [← r.len, List.getElem?_append_right (Nat.le_refl _)]; simp
theorem Ext.show {ρ0 : Pl} {H0 : Hp} {p : Addr} (e : Ext ρ0 H0 ρ H) (h0 : H0 p = none) (hn : p ∉ ρ0.hid) : Ext ρ0 H0 (ρ.show p) H := ⟨by
  obtain ⟨r, h⟩ := e.pre
  exact ⟨r ++ [p], by show ρ.loc ++ [p] = _; rw [h]; simp⟩, fun a q => List.mem_filter.mpr ⟨e.hid a q, decide_eq_true (by rintro rfl; exact hn q)⟩, fun a q => by
  rcases List.mem_append.mp (show a ∈ ρ.loc ++ [p] from q) with z | z
  · exact e.newL a z
  · have : a = p := by simpa using z
    subst this; exact .inr (.none h0), fun a q => e.newH a (List.mem_filter.mp q).1, e.keep, e.live, e.frz⟩
end
def pairsR : List (ME × ME) → Tau → Sto → R (List (Key × D))
  | [], _, S => .ok [] S
  | p :: r, τ, S => (p.1 τ S).bind fun x S1 => (p.2 τ S1).bind fun y S2 => (pairsR r τ S2).bind fun ps S3 => match kOf x with
    | some k => .ok ((k, y) :: ps) S3
    | none => .bad
abbrev dispOk (kvs : List (Key × D)) : Prop := kvs.length ≤ 15 ∧ (kvs.map (·.1)).Nodup
def mDisp (ps : List (ME × ME)) : ME := fun τ S => (pairsR ps τ S).bind fun kvs S1 => guardR (dispOk kvs) (.ok (.dct (kvs.map (·.1)) (kvs.map (·.2))) S1)
/-- a dict that will be changed -/
def mDispN (ps : List (ME × ME)) : ME := fun τ S => (pairsR ps τ S).bind fun kvs S1 => guardR (dispOk kvs) (.ok (.loc S1.length) (S1 ++ [.dK false kvs]))
theorem mergeK_self : ∀ {ws : List (Key × V)}, (ws.map (·.1)).Nodup → mergeK [] ws = ws := by
  have main : ∀ (ws acc : List (Key × V)), ((acc ++ ws).map (·.1)).Nodup → mergeK acc ws = acc ++ ws := by
    intro ws
    induction ws with
    | nil => intro acc _; exact (List.append_nil _).symm
    | cons p r ih =>
      intro acc h
      have e : valV acc p.1 = none := by
        refine (valG_none_iff (kvs := acc)).mpr fun q hq z => ?_
        rw [List.map_append, List.nodup_append] at h
        exact h.2.2 q.1 (List.mem_map.mpr ⟨q, hq, rfl⟩) p.1 (by simp) z
      show mergeK (putK acc p.1 p.2) r = _
      rw [putK_new _ e, ih _ (by simpa using h)]
      simp
  intro ws h
  exact main ws [] (by simpa using h)
theorem KR.keys {κ : Type} {P : V → D → Prop} : ∀ {ws : List (κ × V)} {kvs : List (κ × D)}, KR P ws kvs → ws.map (·.1) = kvs.map (·.1)
  | _, _, .nil => rfl
  | _, _, .cons _ hs => by simp [KR.keys hs]
theorem KR.vals {K : PySem.W.Frag} {ρ : Pl} {H : Hp} {κ : Type} : ∀ {ws : List (κ × V)} {kvs : List (κ × D)}, KR (VR K ρ H) ws kvs → VRs K ρ H (ws.map (·.2)) (kvs.map (·.2))
  | _, _, .nil => .nil
  | _, _, .cons h hs => .cons h (KR.vals hs)
theorem pairs_of {K : PySem.W.Frag} {W : WX} {A' B' : Type} {rel' : Pl → Hp → B' → A' → Prop} {Q : B' → Hp → Prop} {τ : Tau} {σ : St} {ρ0 : Pl} {H0 : Hp} : ∀ {ps : List (ME × ME)} {f : List (Key × D) → Sto → R A'} {ρ : Pl} {S : Sto} {H : Hp} {Q1 : List (V × V) → Hp → Prop}, SR K ρ S H → ER K ρ H τ σ → Ext ρ0 H0 ρ H → Post K (fun c d H' => W c d σ H') ρ0 H0 ((pairsR ps τ S).bind f) rel' Q →
    (∀ ρ1 H1 S1 kvs ws, SR K ρ1 S1 H1 → Ext ρ H ρ1 H1 → KR (VR K ρ1 H1) ws kvs → Post K (fun c d H' => W c d σ H') ρ0 H0 (f kvs S1) rel' Q → Q1 (ws.map fun kv => (kV kv.1, kv.2)) H1) → tPairs (ps.map fun p => (Em K W p.1, Em K W p.2)) σ H Q1
  | [], f, ρ, S, H, Q1, s, r, e0, p, k => k ρ H S [] [] s Ext.refl .nil p
  | q :: ps, f, ρ, S, H, Q1, s, r, e0, p, k => by
    have bb : ∀ {A B C : Type} (o : R A) (g : A → Sto → R B) (h : B → Sto → R C), (o.bind g).bind h = o.bind fun a S => (g a S).bind h := by
      intro A B C o g h; cases o <;> rfl
    simp only [pairsR, bb] at p
    refine ⟨ρ, τ, S, s, r, ?_⟩
    cases q1 : q.1 τ S with
    | bad => rw [q1] at p; exact p.elim
    | ex c fs S' => rw [q1] at p; exact Post.ext e0 p
    | ok x S1 =>
      rw [q1] at p
      simp only [R.bind_ok] at p
      intro ρ1 H1 v e1 s1 v1
      refine ⟨ρ1, τ, S1, s1, r.mono e1, ?_⟩
      cases q2 : q.2 τ S1 with
      | bad => rw [q2] at p; exact p.elim
      | ex c fs S' => rw [q2] at p; exact Post.ext (e0.trans e1) p
      | ok y S2 =>
        rw [q2] at p
        simp only [R.bind_ok] at p
        intro ρ2 H2 w e2 s2 v2
        refine pairs_of (ps := ps) s2 ((r.mono e1).mono e2) ((e0.trans e1).trans e2) p fun ρ3 H3 S3 kvs ws s3 e3 k3 p3 => ?_
        cases q3 : kOf x with
        | none => rw [q3] at p3; exact p3.elim
        | some kk =>
          rw [q3] at p3
          have := kOf_of v1 q3
          subst this
          exact k ρ3 H3 S3 _ ((kk, w) :: ws) s3 ((e1.trans e2).trans e3) (.cons (v2.mono e3) k3) p3
section
variable {X : Cx} {W : WX} {pos : Pos} {keys : List (Option Expr)} {values : List Expr} {ps : List (ME × ME)}
theorem pps0 : PPs X pos [] [] (([] : List (ME × ME)).map fun p => (Em X.K W p.1, Em X.K W p.2)) := pps_nil
theorem pps1 {k v : Expr} {mk mv : ME} (hk : PE X k (Em X.K W mk)) (hv : PE X v (Em X.K W mv)) (hr : PPs X pos keys values (ps.map fun p => (Em X.K W p.1, Em X.K W p.2))) : PPs X pos (some k :: keys) (v :: values) (((mk, mv) :: ps).map fun p => (Em X.K W p.1, Em X.K W p.2)) := pps_cons hk hv hr
theorem z_disp (h : PPs X pos keys values (ps.map fun p => (Em X.K W p.1, Em X.K W p.2))) (hall : keys.all (·.isSome) = true := by rfl) (hl : keys.length = values.length := by rfl) (h0 : keys ≠ [] := by (intro z; cases z)) (h15 : keys.length ≤ 15 := by decide) : PE X (.Dict keys values pos) (Em X.K W (mDisp ps)) :=
  PE_imp (pe_disp h hall hl h0 h15) fun σ H Q ⟨ρ, τ, S, s, r, q⟩ => fun p hp => by
    have e0 : Ext ρ H (ρ.hide p) (upd H p (.dK [])) := Ext.hide hp
    have hn : p ∉ ρ.hid := fun z => s.fresh hp (.inr z)
    refine pairs_of (s.hide hp) (r.mono e0) e0 q fun ρ1 H1 S1 kvs ws s1 e1 k1 p1 => ?_
    obtain ⟨⟨g1, g2⟩, p1⟩ := guardR_post p1
    have d1 : p ∈ ρ1.hid := e1.hid _ List.mem_cons_self
    have hD : H1 p = some (.dK []) := e1.keep _ _ upd_same (by (intro ps z; cases z)) fun z => s.fresh hp (.inl z)
    refine ⟨hD, ws, rfl, by rw [k1.length]; exact g1, ?_⟩
    have k2 : KR (VR X.K ρ1 (upd H1 p (.dK ws))) ws kvs := k1.mono fun _ _ z => VR.rehide (.inr d1) z
    have s2 : SR X.K ρ1 S1 (upd H1 p (.dK ws)) := s1.rehide d1
    rw [mergeK_self (by rw [k1.keys]; exact g2)]
    refine p1 (ρ1.bare p) _ _ (((e0.trans e1).bare hn).rehide hp) s2.unhide (.dct upd_same (fun z => ?_) k1.keys (VRs.unhide k2.vals))
    rcases z with z | z
    · exact (s2.hd p d1).1 z
    · exact of_decide_eq_true (List.mem_filter.mp z).2 rfl
theorem z_dispN (h : PPs X pos keys values (ps.map fun p => (Em X.K W p.1, Em X.K W p.2))) (hall : keys.all (·.isSome) = true := by rfl) (hl : keys.length = values.length := by rfl) (h0 : keys ≠ [] := by (intro z; cases z)) (h15 : keys.length ≤ 15 := by decide) : PE X (.Dict keys values pos) (Em X.K W (mDispN ps)) :=
  PE_imp (pe_disp h hall hl h0 h15) fun σ H Q ⟨ρ, τ, S, s, r, q⟩ => fun p hp => by
    have e0 : Ext ρ H (ρ.hide p) (upd H p (.dK [])) := Ext.hide hp
    have hn : p ∉ ρ.hid := fun z => s.fresh hp (.inr z)
    refine pairs_of (s.hide hp) (r.mono e0) e0 q fun ρ1 H1 S1 kvs ws s1 e1 k1 p1 => ?_
    obtain ⟨⟨g1, g2⟩, p1⟩ := guardR_post p1
    have d1 : p ∈ ρ1.hid := e1.hid _ List.mem_cons_self
    have hD : H1 p = some (.dK []) := e1.keep _ _ upd_same (by (intro ps z; cases z)) fun z => s.fresh hp (.inl z)
    refine ⟨hD, ws, rfl, by rw [k1.length]; exact g1, ?_⟩
    have k2 : KR (VR X.K ρ1 (upd H1 p (.dK ws))) ws kvs := k1.mono fun _ _ z => VR.rehide (.inr d1) z
    have s2 : SR X.K ρ1 S1 (upd H1 p (.dK ws)) := s1.rehide d1
    rw [mergeK_self (by rw [k1.keys]; exact g2)]
    have k3 : KR (VR X.K (ρ1.show p) (upd H1 p (.dK ws))) ws kvs := k2.mono fun _ _ z => VR.sub (Pl.show_mem d1) Pl.show_loc z
    exact p1 (ρ1.show p) _ _ (((e0.trans e1).rehide hp).show hp hn) (s2.show d1 ⟨ws, upd_same, k3⟩) (.loc (Pl.show_get s2))
end

/-! ### d.update(e) -/
def dUpdate : D → List D → Sto → R D
  | .loc l, [.dct ks ds], S => (match S[l]? with
    | some (.dK false kvs) => guardR (kvs.length + ks.length ≤ sizeLine) (.ok .non (S.set l (.dK false (mergeG kvs (List.zip ks ds)))))
    | _ => .bad)
  | _, _, _ => .bad
def rUpdate : V → List V → Hp → VK → Prop := fun x vs H Q => ∃ (a b : Addr) (ws ms : List (Key × V)), x = .ref a ∧ vs = [.ref b] ∧ a ≠ b ∧ H a = some (.dK ws) ∧ H b = some (.dK ms) ∧ ws.length + ms.length ≤ sizeLine ∧ Q .non (upd H a (.dK (mergeK ws ms)))
theorem mt_update {X : Cx} : MtR X "dict.update" rUpdate := by
  intro pins s σ H x xs v us Q I rx rs ⟨a, b, ws, ms, e1, e2, hne, ha, hb, hz, q⟩
  subst e1 e2
  obtain rfl : v = Value.ref a := rx
  obtain ⟨u, rfl, ru⟩ := Vals.one rs
  obtain rfl : u = Value.ref b := ru
  obtain ⟨z1, hd1, vs1, rel1, dd1⟩ := dk_of I.hok ha
  obtain ⟨z2, hd2, vs2, rel2, dd2⟩ := dk_of I.hok hb
  refine call_meetsIn PySem.F.slot_dict_update dd1.typeIs PySem.F.entry_dict_update (PySem.F.args_dict_update_2 _ _) (meets_dict_update (mixKind X.prog X.w) a b hne hd2)
    ⟨vs1, vs2, dd1, dd2, by rw [← rel1.length, ← rel2.length]; exact hz, fun h' dd' _ hs => ⟨.non, _, ?_, rfl, q⟩⟩
  have he : ∃ q, h'.get? a = some q := let ⟨q, _, _, hq, _⟩ := dd'; ⟨q, hq⟩
  have hl : (mergeK ws ms).length ≤ sizeLine := Nat.le_trans (length_mergeK ms ws) hz
  exact d_write I (by rw [ha]; exact True.intro) hs he (dk_new hl hd1 (rel2.merge rel1) dd')
theorem dUpdate_ok {K : PySem.W.Frag} : MethS K dUpdate rUpdate := fun Wk ρ S H v d vs ds Q s r rs h => by
  unfold dUpdate at h
  split at h
  · obtain ⟨y, rfl, ry⟩ := vrs1 rs
    split at h
    · rename_i kvs e
      obtain ⟨hz, h⟩ := guardR_post h
      cases r with
      | @loc a _ hl =>
        obtain ⟨ws, k1, k2⟩ := s.at hl e
        cases ry with
        | @dct b ms _ _ h1 h2 hk hs =>
          have hne : a ≠ b := by rintro rfl; exact h2 (.inl (List.mem_of_getElem? hl))
          have hlen := congrArg List.length hk
          rw [List.length_map] at hlen
          refine ⟨a, b, ws, ms, rfl, rfl, hne, k1, h1, by rw [k2.length, hlen]; exact hz, ?_⟩
          have x : Ext ρ H ρ (upd H a (.dK (mergeK ws ms))) := Ext.set hl (.of k1)
          refine h ρ _ _ x (s.set hl ⟨_, upd_same, ?_⟩) .non
          rw [← hk]
          exact (k2.merge (kr_zip hs)).mono fun _ _ z => VR.mono x z
    · exact h.elim
  · exact h.elim
end Z

/-! Z34: walks over dicts (locked), while. -/
namespace Z
open PySem L2 PySem.Spec

/-! ### locks -/
section
variable {K : PySem.W.Frag} {W : WX} {ρ ρ' : Pl} {H H' : Hp} {S S' : Sto} {τ : Tau} {σ : St}
end
section
variable {X : Cx} {W : WX} {st : Stmt} {e : Expr} {m me : ME} {ms : MS}
theorem keep1 {l : Nat} {c : C} {S : Sto} : keepB [(l, c)] S = true ↔ S[l]? = some c := keepB_iff.trans ⟨fun h => h (l, c) (by simp), fun h p hp => by
  have : p = (l, c) := by simpa using hp
  subst this; exact h⟩
end

/-! ### what a locked dict gives -/
def pairD (p : Key × D) : D := .tup [keyD p.1, p.2]
def valsOf : D → Sto → Option Items
  | .loc l, S => (match S[l]? with
    | some (.dK true kvs) => some ⟨kvs.map (·.2), [(l, .dK true kvs)]⟩
    | _ => none)
  | _, _ => none
def itemsOfD : D → Sto → Option Items
  | .loc l, S => (match S[l]? with
    | some (.dK true kvs) => some ⟨kvs.map pairD, [(l, .dK true kvs)]⟩
    | _ => none)
  | _, _ => none
def iVal (m : ME) : MI := fun τ S => (m τ S).bind fun d S1 => ofO (valsOf d S1) S1
def iItm (m : ME) : MI := fun τ S => (m τ S).bind fun d S1 => ofO (itemsOfD d S1) S1
section
variable {K : PySem.W.Frag} {ρ0 : Pl} {H0 : Hp}
theorem KR.getV {κ : Type} {P : V → D → Prop} : ∀ {ws : List (κ × V)} {kvs : List (κ × D)} {i : Nat} {k : κ} {v : V}, KR P ws kvs → ws[i]? = some (k, v) → ∃ d, kvs[i]? = some (k, d) ∧ P v d
  | _, _, _, _, _, .nil, h => by simp at h
  | _, _, 0, _, _, .cons r _, h => by simp at h; obtain ⟨rfl, rfl⟩ := h; exact ⟨_, rfl, r⟩
  | _, _, i + 1, k, v, .cons _ rs, h => by
    obtain ⟨d, h1, h2⟩ := KR.getV (i := i) rs (by simpa using h)
    exact ⟨d, by simpa using h1, h2⟩
theorem KR.get {κ : Type} {P : V → D → Prop} : ∀ {ws : List (κ × V)} {kvs : List (κ × D)} {i : Nat}, KR P ws kvs → i < kvs.length → ∃ p, ws[i]? = some p := fun h hi => ⟨_, List.getElem?_eq_getElem (by rw [h.length]; exact hi)⟩
end
section
variable {X : Cx} {W : WX} {tg e : Expr} {m : ME} {apos cpos : Pos}
end

/-! ### while -/
open Classical in
section
variable {X : Cx} {W : WX} {c : Expr} {body : List Stmt} {t : MT} {mb : MS} {pos : Pos}
end
end Z

/-! Z35: zip of a tuple and a list. -/
namespace Z
open PySem PySem.Spec L2
section
variable {P : Program} {w : World} {A : Around} {E : Value → Shared → Prop} {s : Shared}
/-- the heap behind zip's making: two iterators, the pair of them, the pair that is handed out, the zip -/
def zh2 (h : Heap) (o1 o2 : Obj) : Heap := (h.push o1).push o2
def zh4 (h : Heap) (o1 o2 : Obj) : Heap := ((zh2 h o1 o2).push { cls := .type "tuple", data := .seq #[.ref h.objs.size, .ref (h.push o1).objs.size] }).push { cls := .type "tuple", data := .seq #[.none, .none] }
def zh5 (h : Heap) (o1 o2 : Obj) : Heap := (zh4 h o1 o2).push { cls := .type "zip", data := .fields #[.none, .bool false, .bool false, .ref (zh2 h o1 o2).objs.size, .ref ((zh2 h o1 o2).push { cls := .type "tuple", data := .seq #[.ref h.objs.size, .ref (h.push o1).objs.size] }).objs.size] }
theorem zip_made {v1 v2 : Value} {o1 o2 : Obj} {H1 H2 : Heap → Prop} (B1 : Begins v1 o1 H1) (B2 : Begins v2 o2 H2) :
    Meets (Builtin.«zip.__new__» ⟨[.type "zip", v1, v2], []⟩) (fun _ R z => H1 z.heap ∧ H2 z.heap ∧ R (.ok (.ret (.ref (zh4 z.heap o1 o2).objs.size))) { z with heap := zh5 z.heap o1 o2 }) :=
  .of_wp fun P w A R z hz => by
    obtain ⟨h0, g0, d0, t0, q0⟩ := z
    obtain ⟨hA, hB, hR⟩ := hz
    have hsub := sub_zip
    have hB2 : H2 (h0.push o1) := B2.keeps _ _ hB fun b o e => Heap.get?_push_of_some _ e
    have first_ : ∀ {A' : Around} {E : Value → Shared → Prop} {Q : Value → Shared → Prop}, Q (.ref h0.objs.size) ⟨h0.push o1, g0, d0, t0, q0⟩ → wpAny (model P w) A' (pyIter v1) Q E ⟨h0, g0, d0, t0, q0⟩ :=
      fun q => B1.iter P w _ _ ⟨h0, g0, d0, t0, q0⟩ _ hA q
    have second_ : ∀ {A' : Around} {E : Value → Shared → Prop} {Q : Value → Shared → Prop}, Q (.ref (h0.push o1).objs.size) ⟨(h0.push o1).push o2, g0, d0, t0, q0⟩ → wpAny (model P w) A' (pyIter v2) Q E ⟨h0.push o1, g0, d0, t0, q0⟩ :=
      fun q => B2.iter P w _ _ ⟨h0.push o1, g0, d0, t0, q0⟩ _ hB2 q
    wp_walk using first_, second_
    exact ⟨_, rfl, hR⟩
theorem zip_called {v1 v2 : Value} {o1 o2 : Obj} {H1 H2 : Heap → Prop} {Q : Value → Shared → Prop} (B1 : Begins v1 o1 H1) (B2 : Begins v2 o2 H2) (h1 : H1 s.heap) (h2 : H2 s.heap)
    (k : ∀ h', IsZip h' (s.heap.objs.size + 4) (s.heap.objs.size + 2) (s.heap.objs.size + 3) .none → IsTupOf2 h' (s.heap.objs.size + 2) (.ref s.heap.objs.size) (.ref (s.heap.objs.size + 1)) → IsTupOf2 h' (s.heap.objs.size + 3) .none .none →
      h'.get? s.heap.objs.size = some o1 → h'.get? (s.heap.objs.size + 1) = some o2 → (∀ c o, s.heap.get? c = some o → h'.get? c = some o) → Q (.ref (s.heap.objs.size + 4)) { s with heap := h' }) :
    wpAny (model P w) A (call (.type "zip") [v1, v2]) Q E s := by
  refine callType_new F.called_zip (by decide) (F.typeCall_zip_2 _ _) (F.newCall_zip_2 _ _) (fun obj => F.args_object_init_3 obj _ _) F.entry_zip_new (zip_made B1 B2) ⟨h1, h2, ?_⟩
  have n1 : (s.heap.push o1).objs.size = s.heap.objs.size + 1 := Heap.size_push ..
  have n2 : (zh2 s.heap o1 o2).objs.size = s.heap.objs.size + 2 := by unfold zh2; rw [Heap.size_push, n1]
  have n3 : ((zh2 s.heap o1 o2).push { cls := .type "tuple", data := .seq #[.ref s.heap.objs.size, .ref (s.heap.push o1).objs.size] }).objs.size = s.heap.objs.size + 3 := by rw [Heap.size_push, n2]
  have n4 : (zh4 s.heap o1 o2).objs.size = s.heap.objs.size + 4 := by unfold zh4; rw [Heap.size_push, n3]
  have up : ∀ c o, (zh2 s.heap o1 o2).get? c = some o → (zh5 s.heap o1 o2).get? c = some o := fun c o e => Heap.get?_push_of_some _ (Heap.get?_push_of_some _ (Heap.get?_push_of_some _ e))
  have a1 : (zh5 s.heap o1 o2).get? s.heap.objs.size = some o1 := up _ _ (Heap.get?_push_of_some _ (Heap.get?_push_size _ B1.free))
  have a2 : (zh5 s.heap o1 o2).get? (s.heap.push o1).objs.size = some o2 := up _ _ (Heap.get?_push_size _ B2.free)
  have a3 : (zh5 s.heap o1 o2).get? (zh2 s.heap o1 o2).objs.size = some _ := Heap.get?_push_of_some _ (Heap.get?_push_of_some _ (Heap.get?_push_size _ rfl))
  have a4 : (zh5 s.heap o1 o2).get? ((zh2 s.heap o1 o2).push { cls := .type "tuple", data := .seq #[.ref s.heap.objs.size, .ref (s.heap.push o1).objs.size] }).objs.size = some _ := Heap.get?_push_of_some _ (Heap.get?_push_size _ rfl)
  have a5 : (zh5 s.heap o1 o2).get? (zh4 s.heap o1 o2).objs.size = some _ := Heap.get?_push_size _ rfl
  show _ ∧ _
  rw [n4, n2, n3] at a5
  rw [n2, n1] at a3
  rw [n3] at a4
  rw [n1] at a2
  rw [n4]
  exact ⟨⟨_, a5, rfl⟩, k _ a5 a3 a4 a1 a2 fun c o x => up _ _ (Heap.get?_push_of_some _ (Heap.get?_push_of_some _ x))⟩
end
/-- the tuple at a and the list at b as they stand at each turn, the items in new pairs -/
def ItzM (K : PySem.W.Frag) (a b : Addr) : It :=
  ⟨fun i H => ∃ (xs ys : List V) (x y : V), SqT K H a xs ∧ SqL K H b ys ∧ xs[i]? = some x ∧ ys[i]? = some y,
    fun i H v H' => ∃ T x y, v = .ref T ∧ H T = none ∧ H' = upd H T (.tup [x, y]) ∧ (∀ xs, SqT K H a xs → xs[i]? = some x) ∧ ∀ ys, SqL K H b ys → ys[i]? = some y,
    fun i H => ∃ xs ys : List V, SqT K H a xs ∧ SqL K H b ys ∧ i ≤ xs.length ∧ i ≤ ys.length ∧ (i = xs.length ∨ i = ys.length)⟩
structure ZSep (z TI TO i1 i2 a b : Addr) : Prop extends ZipSep2 z TI TO i1 i2 [i1, a] [i2, b] where
  sepA : a ≠ i1
  sepB : b ≠ i2
theorem zsep {z TI TO i1 i2 a b : Addr} (c1 : a ∉ [z, TI, TO, i1, i2]) (c2 : b ∉ [z, TI, TO, i1, i2]) (nd : [z, TI, TO, i1, i2].Nodup) : ZSep z TI TO i1 i2 a b := by
  simp only [List.nodup_cons, List.mem_cons, List.not_mem_nil, or_false, not_or] at nd c1 c2
  obtain ⟨⟨n1, n2, n3, n4⟩, ⟨n5, n6, n7⟩, ⟨n8, n9⟩, n10, _⟩ := nd
  obtain ⟨a1, a2, a3, a4, a5⟩ := c1
  obtain ⟨b1, b2, b3, b4, b5⟩ := c2
  refine { TIz := Ne.symm n1, TOz := Ne.symm n2, TITO := n5, TIi1 := n6, mem1 := by simp, zf1 := ?_, Tf1 := ?_, TIi2 := n7, mem2 := by simp, zf2 := ?_, Tf2 := ?_, sep1_2 := ?_, sep2_1 := ?_, sepA := a4, sepB := b5 }
  all_goals simp only [List.mem_cons, List.not_mem_nil, or_false, not_or]
  · exact ⟨n3, Ne.symm a1⟩
  · exact ⟨n8, Ne.symm a3⟩
  · exact ⟨n4, Ne.symm b1⟩
  · exact ⟨n9, Ne.symm b3⟩
  · exact ⟨n10, Ne.symm b4⟩
  · exact ⟨Ne.symm n10, Ne.symm a5⟩
theorem turn_zipM {P : Program} {w : World} {K : PySem.W.Frag} {elts : List Expr} {kk : Nat} {tpos : Pos} {a b z TI TO i1 i2 : Addr} (c1 : a ∉ [z, TI, TO, i1, i2]) (c2 : b ∉ [z, TI, TO, i1, i2]) (nd : [z, TI, TO, i1, i2].Nodup) :
    Turn P w K (.Tuple elts kk tpos) (ItzM K a b) [z, TI, TO, i1, i2] z (fun i h => IsZip h z TI TO .none ∧ IsTupOf2 h TI (.ref i1) (.ref i2) ∧ (∃ x y, IsTupOf2 h TO x y) ∧ h.IsTupleIter i1 a i ∧ h.IsListIter i2 b i) where
  mem := by simp
  obj := fun i h st c hc => by
    obtain ⟨hz, hTI, ⟨x, y, hTO⟩, ⟨o1, e1, _, d1⟩, ⟨o2, e2, _, d2⟩⟩ := st
    rcases (show c = z ∨ c = TI ∨ c = TO ∨ c = i1 ∨ c = i2 by simpa using hc) with q | q | q | q | q
    · rw [q]; exact ⟨_, hz, fun v q => nomatch q⟩
    · rw [q]; exact ⟨_, hTI, fun v q => nomatch q⟩
    · rw [q]; exact ⟨_, hTO, fun v q => nomatch q⟩
    · rw [q]; exact ⟨o1, e1, fun v q => by rw [d1] at q; cases q⟩
    · rw [q]; exact ⟨o2, e2, fun v q => by rw [d2] at q; cases q⟩
  keep := fun i h h' st k => ⟨k z (by simp) _ st.1, k TI (by simp) _ st.2.1, let ⟨x, y, q⟩ := st.2.2.1; ⟨x, y, k TO (by simp) _ q⟩, st.2.2.2.1.at fun o q => k i1 (by simp) o q, st.2.2.2.2.at fun o q => k i2 (by simp) o q⟩
  item := by
    intro X hP hw hK hc i pins s σ H E I hf st hg
    subst hP hw hK
    obtain ⟨hz, hTI, ⟨x0, y0, hTO⟩, h1, h2⟩ := st
    obtain ⟨xs, ys, x, y, hqx, hqy, hx, hy⟩ := hg
    obtain ⟨its, rv, p, _⟩ := I.tuple hqx
    obtain ⟨its2, rv2, p2, _⟩ := I.list hqy
    obtain ⟨u, hu, ru⟩ := rv.get hx
    obtain ⟨u2, hu2, ru2⟩ := rv2.get hy
    have hzl := Heap.lt_size hz
    have S := zsep c1 c2 nd
    refine wpAny_pyNext_zipD2_item S.toZipSep2 (Draws.tuple (A := X.A.in1) (by simp [I.ok.hd hc]) i1 a S.sepA its.toArray) (Draws.list (A := X.A.in1) (by simp [I.ok.hd hc]) i2 b S.sepB its2.toArray) hz hTI hTO ⟨h1, p⟩ ⟨h2, p2.isList⟩ (by
      have := (List.getElem?_eq_some_iff.mp hu).1; simpa using this) (by
      have := (List.getElem?_eq_some_iff.mp hu2).1; simpa using this) fun x1 x2 h' tk e1 e2 hz' hTO' st1 st2 hT hsz hk => ?_
    have e1' : x1 = u := by
      have e1 : its.toArray[i]? = some x1 := e1
      have : its.toArray[i]? = some u := by simpa using hu
      rw [e1] at this; exact Option.some.inj this
    have e2' : x2 = u2 := by
      have e2 : its2.toArray[i]? = some x2 := e2
      have : its2.toArray[i]? = some u2 := by simpa using hu2
      rw [e2] at this; exact Option.some.inj this
    subst e1' e2'
    refine ⟨_, rfl, wpAny_letOwnedTupleGo_zip (s := { s with heap := h', toks := tk }) hz' fun h'' z'' sb => ?_⟩
    have hT2 : h''.get? s.heap.objs.size = some { cls := .type "tuple", data := .seq #[x1, x2] } := (sb.2 _ (Nat.ne_of_gt hzl)).trans hT
    have new : ObjOk X.prog X.w (upd H s.heap.objs.size (.tup [x, y])) h'' s.heap.objs.size (.tup [x, y]) :=
      ⟨by show 2 ≤ sizeLine; decide, [x1, x2], .cons ru (.cons ru2 .nil), ⟨_, hT2, rfl, _, rfl⟩⟩
    have I1 : Inv X pins σ (upd H s.heap.objs.size (.tup [x, y])) { s with heap := h'', toks := tk } :=
      I.turnedNew (t' := tk) (ch := [z, TI, TO, i1, i2]) (fun c o hb q => (sb.2 c fun q' => hb (by simp [q'])).trans (hk c o (fun q' => hb (by simp [q'])) (fun q' => hb (by simp [q'])) (fun q' => hb (by simp [q'])) (fun q' => hb (by simp [q'])) q)) hf (Nat.le_refl _) new
    refine ⟨.ref s.heap.objs.size, _, I1, rfl, ⟨_, x, y, rfl, I.hok.fresh (Nat.le_refl _), rfl, fun l hl => by rw [I.tuple_inj hl hqx]; exact hx, fun l hl => by rw [I.list_inj hl hqy]; exact hy⟩, ⟨z'', ?_, ⟨x1, x2, ?_⟩, ?_, ?_⟩, fun c hcm => ?_⟩
    · exact (sb.2 _ S.TIz).trans (hk _ _ S.TIz S.TITO S.TIi1 S.TIi2 hTI)
    · exact (sb.2 _ S.TOz).trans hTO'
    · exact st1.1.at fun o q => (sb.2 _ S.zi1.symm).trans q
    · exact st2.1.at fun o q => (sb.2 _ S.zi2.symm).trans q
    · have hlt : c < s.heap.objs.size := by
        rcases (show c = z ∨ c = TI ∨ c = TO ∨ c = i1 ∨ c = i2 by simpa using hcm) with q | q | q | q | q
        · rw [q]; exact hzl
        · rw [q]; exact Heap.lt_size hTI
        · rw [q]; exact Heap.lt_size hTO
        · rw [q]; obtain ⟨_, e1, _⟩ := h1; exact Heap.lt_size e1
        · rw [q]; obtain ⟨_, e2, _⟩ := h2; exact Heap.lt_size e2
      rw [upd_ne (Nat.ne_of_lt hlt)]
      exact (hf c hcm).1
  done := by
    intro X hP hw hK hc i pins s σ H E I hf st hg
    subst hP hw hK
    obtain ⟨hz, hTI, ⟨x0, y0, hTO⟩, h1, h2⟩ := st
    obtain ⟨xs, ys, hqx, hqy, l1, l2, hend⟩ := hg
    obtain ⟨its, rv, p, _⟩ := I.tuple hqx
    obtain ⟨its2, rv2, p2, _⟩ := I.list hqy
    have S := zsep c1 c2 nd
    have e1 : its.toArray.size = xs.length := by rw [List.size_toArray, rv.length]
    have e2 : its2.toArray.size = ys.length := by rw [List.size_toArray, rv2.length]
    exact wpAny_pyNext_zipD2_end S.toZipSep2 (Draws.tuple (A := X.A.in1) (by simp [I.ok.hd hc]) i1 a S.sepA its.toArray) (Draws.list (A := X.A.in1) (by simp [I.ok.hd hc]) i2 b S.sepB its2.toArray) hz hTI hTO ⟨h1, p⟩ ⟨h2, p2.isList⟩ (by omega) (by omega) (by omega) fun h' tk hk => ⟨rfl, I.turnedL (t' := tk) (ch := [z, TI, TO, i1, i2]) (fun c o hb q =>
      hk c o (fun q' => hb (by simp [q'])) (fun q' => hb (by simp [q'])) (fun q' => hb (by simp [q'])) (fun q' => hb (by simp [q'])) q) hf⟩
  self := fun A i s Q E st h => wpAny_pyIter_zip st.1 h
theorem far5 (n a : Nat) (h : a < n) : a ∉ [n + 4, n + 2, n + 3, n, n + 1] := by
  simp; omega
theorem nd5 (n : Nat) : [n + 4, n + 2, n + 3, n, n + 1].Nodup := by simp
def iZipM (K : PySem.W.Frag) (ta : TA) : TI := fun σ H R => ta σ H fun vs H1 => ∃ a b xs ys, vs = [.ref a, .ref b] ∧ SqT K H1 a xs ∧ SqL K H1 b ys ∧ R (ItzM K a b) H1
theorem pi_zipM {X : Cx} {e e2 : Expr} {ta : TA} {p pos tpos : Pos} {elts : List Expr} {kk : Nat} (hg : Gl X "zip") (hm : X.mg "zip" = none) (ha : PA X [e, e2] ta)
    (hs : starEach [e, e2] X.env = (false, eval e X.env) :: starEach [e2] X.env := by rfl) (hpl : (backTo pos (starEach [e2] X.env)).any (·.1) = false := by rfl) :
    PI X (.Tuple elts kk tpos) (.Call (.Name "zip" p) [e, e2] [] pos) (iZipM X.K ta) := by
  constructor
  intro pins s σ H R I h
  refine PyProof.Rows.Call_ (ld_blt I hg hm PyProof.Rows.boot_zip (PyProof.Rows.callWith_type1 (thn (ha.run pos pins s σ H _ I h) fun us s1 ⟨vs, H1, I1, r1, q1⟩ => ?_) hs hpl))
  obtain ⟨a, b, xs, ys, ex, hqx, hqy, q⟩ := q1
  subst ex
  cases r1 with
  | cons r rr => cases rr with
    | cons r' rr =>
      cases rr; cases r; cases r'
      obtain ⟨its, rv, p1, _⟩ := I1.tuple hqx
      obtain ⟨its2, rv2, p2, _⟩ := I1.list hqy
      have la : a < s1.heap.objs.size := let ⟨o, ho, _⟩ := p1; Heap.lt_size ho
      have lb : b < s1.heap.objs.size := p2.lt
      refine zip_called (begins_tuple a its.toArray) (begins_list b its2.toArray) p1 p2.isList fun h' hz hTI hTO g1 g2 hk => wpAny_pyIter_zip hz ?_
      have I2 : Inv X pins σ H1 { s1 with heap := h' } := I1.kept (t' := s1.toks) hk
      refine ⟨s1.heap.objs.size + 4, [s1.heap.objs.size + 4, s1.heap.objs.size + 2, s1.heap.objs.size + 3, s1.heap.objs.size, s1.heap.objs.size + 1], _, _, H1, rfl, I2, turn_zipM (a := a) (b := b) ?_ ?_ ?_, ⟨hz, hTI, ⟨_, _, hTO⟩, ⟨_, g1, rfl, rfl⟩, ⟨_, g2, rfl, rfl⟩⟩, fun c hcm => ?_, q⟩
      · exact far5 _ _ la
      · exact far5 _ _ lb
      · exact nd5 _
      · have hle : s1.heap.objs.size ≤ c := by
          rcases (show c = s1.heap.objs.size + 4 ∨ c = s1.heap.objs.size + 2 ∨ c = s1.heap.objs.size + 3 ∨ c = s1.heap.objs.size ∨ c = s1.heap.objs.size + 1 by simpa using hcm) with q | q | q | q | q
          · rw [q]; exact Nat.le_add_right _ _
          · rw [q]; exact Nat.le_add_right _ _
          · rw [q]; exact Nat.le_add_right _ _
          · rw [q]; exact Nat.le_refl _
          · rw [q]; exact Nat.le_add_right _ _
        exact I1.fpOk hle (I1.hok.fresh hle)
/-- zip of any two rows: both tuples, both lists, a tuple and a list -/
def tupR : D → Option (List D)
  | .tup ds => some ds
  | .ktup ds => some ds
  | _ => none
def zipA : List D → Sto → Option Items
  | [x, y], S => (match tupR x, tupR y with
    | some ds, some es => some ⟨List.zipWith (fun a b => .tup [a, b]) ds es, []⟩
    | some ds, none => (listR y S).map fun es => ⟨List.zipWith (fun a b => .tup [a, b]) ds es, keepOf y S⟩
    | none, _ => (match listR x S, listR y S with
      | some ds, some es => some ⟨List.zipWith (fun a b => .tup [a, b]) ds es, keepOf x S ++ keepOf y S⟩
      | _, _ => none))
  | _, _ => none
section
variable {K : PySem.W.Frag} {ρ0 : Pl} {H0 : Hp}
theorem tupR_of {ρ : Pl} {H : Hp} {v : V} {d : D} {ds : List D} (r : VR K ρ H v d) (h : tupR d = some ds) : ∃ a xs, v = .ref a ∧ SqT K H a xs ∧ VRs K ρ H xs ds := by
  cases d <;> simp only [tupR, reduceCtorEq, Option.some.injEq] at h
  · subst h; exact tup_of r
  · subst h; exact ktup_of r
theorem iter_zipT' {a b : Addr} {dx dy : D} {ds es : List D} (ra : VR K ρ0 H0 (.ref a) dx) (rb : VR K ρ0 H0 (.ref b) dy) (hx : tupR dx = some ds) (hy : tupR dy = some es) : IterOK K ρ0 H0 (RZ.ItzT K a b) ⟨List.zipWith (fun a b => .tup [a, b]) ds es, []⟩ := fun ρ H S e s k => by
  obtain ⟨_, xs, e1, h1, h2⟩ := tupR_of (ra.mono e) hx
  cases e1
  obtain ⟨_, ys, e1, k1, k2⟩ := tupR_of (rb.mono e) hy
  cases e1
  have hl := h2.length
  have hl2 := k2.length
  refine ⟨fun i hi => ?_, ⟨xs, ys, h1, k1, by show xs.length ≤ (List.zipWith _ _ _).length ∨ _; rw [List.length_zipWith]; omega⟩, fun i x H' hi y => ?_⟩
  · have hi' : i < (List.zipWith (fun a b => D.tup [a, b]) ds es).length := hi
    rw [List.length_zipWith] at hi'
    exact ⟨xs, ys, xs[i]'(by omega), ys[i]'(by omega), h1, k1, by simp, by simp⟩
  · obtain ⟨T, x, y, e1, e2, e3, e4, e5⟩ := y
    exact pair_turn s h2 k2 ⟨T, x, y, e1, e2, e3, e4 xs h1, e5 ys k1⟩
theorem iter_zipM {a b : Addr} {dx dy : D} {ds es : List D} {S0 : Sto} (ra : VR K ρ0 H0 (.ref a) dx) (rb : VR K ρ0 H0 (.ref b) dy) (hx : tupR dx = some ds) (hy : listR dy S0 = some es) : IterOK K ρ0 H0 (ItzM K a b) ⟨List.zipWith (fun a b => .tup [a, b]) ds es, keepOf dy S0⟩ := fun ρ H S e s k => by
  obtain ⟨_, xs, e1, h1, h2⟩ := tupR_of (ra.mono e) hx
  cases e1
  obtain ⟨_, ys, e1, k1, k2⟩ := listR_of s (rb.mono e) (listR_keep hy k)
  cases e1
  have hl := h2.length
  have hl2 := k2.length
  refine ⟨fun i hi => ?_, ⟨xs, ys, h1, k1, ?_, ?_, ?_⟩, fun i x H' hi y => ?_⟩
  · have hi' : i < (List.zipWith (fun a b => D.tup [a, b]) ds es).length := hi
    rw [List.length_zipWith] at hi'
    exact ⟨xs, ys, xs[i]'(by omega), ys[i]'(by omega), h1, k1, by simp, by simp⟩
  all_goals first | (show (List.zipWith _ _ _).length ≤ _; rw [List.length_zipWith]; omega) | (show (List.zipWith _ _ _).length = _ ∨ _; rw [List.length_zipWith]; omega) | skip
  obtain ⟨T, x, y, e1, e2, e3, e4, e5⟩ := y
  exact pair_turn s h2 k2 ⟨T, x, y, e1, e2, e3, e4 xs h1, e5 ys k1⟩
end
section
variable {X : Cx} {W : WX} {tg a b : Expr} {ms : MA} {p pos : Pos}
theorem i_zipA {elts : List Expr} {kk : Nat} {tpos : Pos} (hm : X.mg "zip" = none) (ha : PA X [a, b] (Am X.K W ms)) (hg : Gl X "zip" := by rfl)
    (hs : starEach [a, b] X.env = (false, eval a X.env) :: starEach [b] X.env := by rfl) (hpl : (backTo pos (starEach [b] X.env)).any (·.1) = false := by rfl) : PI X (.Tuple elts kk tpos) (.Call (.Name "zip" p) [a, b] [] pos) (Im X.K W (iArgs zipA ms)) := by
  constructor
  intro pins st σ H Rr I h
  have main : (RZ.iZipA X.K (Am X.K W ms)) σ H Rr ∨ (iZipM X.K (Am X.K W ms)) σ H Rr := by
    obtain ⟨ρ, τ, S, s, r, q⟩ := h
    unfold iArgs at q
    cases q1 : ms τ S with
    | bad => rw [q1] at q; exact q.elim
    | ex c fs S' =>
      rw [q1] at q
      exact .inl ⟨ρ, τ, S, s, r, by rw [q1]; exact q⟩
    | ok ds S1 =>
      rw [q1] at q
      simp only [R.bind_ok] at q
      cases q2 : zipA ds S1 with
      | none => rw [q2] at q; exact q.elim
      | some it =>
        rw [q2] at q
        simp only [ofO_some] at q
        unfold zipA at q2
        split at q2
        · rename_i dx dy
          split at q2
          · rename_i ds es t1 t2
            cases q2
            refine .inl ⟨ρ, τ, S, s, r, ?_⟩
            rw [q1]
            intro ρ1 H1 vs e1 s1 v1
            obtain ⟨v, w, rfl, rv, rw'⟩ := vrs2 v1
            obtain ⟨x, xs, rfl, h1, h2⟩ := tupR_of rv t1
            obtain ⟨y, ys, rfl, k1, k2⟩ := tupR_of rw' t2
            exact ⟨x, y, xs, ys, rfl, .inr ⟨h1, k1, q ρ1 H1 _ e1 s1 (fun _ h => nomatch h) (iter_zipT' rv rw' t1 t2)⟩⟩
          · rename_i ds t1 t2
            simp only [Option.map_eq_some_iff] at q2
            obtain ⟨es, t3, rfl⟩ := q2
            refine .inr ⟨ρ, τ, S, s, r, ?_⟩
            rw [q1]
            intro ρ1 H1 vs e1 s1 v1
            obtain ⟨v, w, rfl, rv, rw'⟩ := vrs2 v1
            obtain ⟨x, xs, rfl, h1, h2⟩ := tupR_of rv t1
            obtain ⟨y, ys, rfl, k1, k2⟩ := listR_of s1 rw' t3
            exact ⟨x, y, xs, ys, rfl, h1, k1, q ρ1 H1 _ e1 s1 keepOf_ok (iter_zipM rv rw' t1 t3)⟩
          · split at q2
            · rename_i ds es t1 t2
              cases q2
              refine .inl ⟨ρ, τ, S, s, r, ?_⟩
              rw [q1]
              intro ρ1 H1 vs e1 s1 v1
              obtain ⟨v, w, rfl, rv, rw'⟩ := vrs2 v1
              obtain ⟨x, xs, rfl, h1, h2⟩ := listR_of s1 rv t1
              obtain ⟨y, ys, rfl, k1, k2⟩ := listR_of s1 rw' t2
              exact ⟨x, y, xs, ys, rfl, .inl ⟨h1, k1, q ρ1 H1 _ e1 s1 (keepOk_app.mpr ⟨keepOf_ok, keepOf_ok⟩) (iter_zipL rv rw' t1 t2)⟩⟩
            · cases q2
        · cases q2
  rcases main with h | h
  · exact (RZ.pi_zipA hg hm ha hs hpl).run pins st σ H Rr I h
  · exact (pi_zipM hg hm ha hs hpl).run pins st σ H Rr I h
end
end Z

/-! Z36: the module's constants: tuples, dicts with text keys; texts that are equal. -/
namespace Z
open PySem PySem.Spec PyProof.Rows L2

mutual
/-- a written value reads as a tree -/
inductive LitV (K : PySem.W.Frag) : Value → D → Prop
  | non : LitV K .none .non
  | int (i : Int) (t : Tok) : LitV K (.int i t) (.int i)
  | str (x : Str) (t : Tok) : LitV K (.str x t) (.str x)
  | tup {p : Addr} {vs : List Value} {ds : List D} {n : Nat} {dd : Option Addr} {sl : Array (Option Value)} : K.lookup p = some ⟨.type "tuple", dd, .seq vs.toArray n, sl⟩ → vs.length ≤ sizeLine → LitVs K vs ds → LitV K (.ref p) (.ktup ds)
inductive LitVs (K : PySem.W.Frag) : List Value → List D → Prop
  | nil : LitVs K [] []
  | cons {u : Value} {us : List Value} {d : D} {ds : List D} : LitV K u d → LitVs K us ds → LitVs K (u :: us) (d :: ds)
end
mutual
theorem LitV.vr {K : PySem.W.Frag} : ∀ {u : Value} {d : D}, LitV K u d → ∃ v, RelV v u ∧ ∀ ρ H, VR K ρ H v d
  | _, _, .non => ⟨.non, rfl, fun _ _ => .non⟩
  | _, _, .int i t => ⟨.int i, ⟨t, rfl⟩, fun _ _ => .int i⟩
  | _, _, .str x t => ⟨.str x, ⟨t, rfl⟩, fun _ _ => .str x⟩
  | _, _, .tup (p := p) (vs := vs) h hl hs => by
    obtain ⟨xs, h1, h2⟩ := LitVs.vr hs
    exact ⟨.ref p, rfl, fun ρ H => .ktup (fun H' => .inr ⟨_, vs.toArray, _, h, rfl, rfl, by simpa using hl, by simpa using h1⟩) (h2 ρ H)⟩
theorem LitVs.vr {K : PySem.W.Frag} : ∀ {us : List Value} {ds : List D}, LitVs K us ds → ∃ vs, Vals vs us ∧ ∀ ρ H, VRs K ρ H vs ds
  | _, _, .nil => ⟨[], .nil, fun _ _ => .nil⟩
  | _, _, .cons h hs => by
    obtain ⟨v, a1, a2⟩ := LitV.vr h
    obtain ⟨vs, b1, b2⟩ := LitVs.vr hs
    exact ⟨v :: vs, .cons a1 b1, fun ρ H => .cons (a2 ρ H) (b2 ρ H)⟩
end
/-- entries of a written dict -/
inductive EntK (P : Params) (K : PySem.W.Frag) : List DictEntry → List (Str × D) → Prop
  | nil : EntK P K [] []
  | cons {x : Str} {t : Tok} {u : Value} {d : D} {es : List DictEntry} {kvs : List (Str × D)} : LitV K u d → EntK P K es kvs → EntK P K (⟨PyData.keyHash P x, .str x t, u⟩ :: es) ((x, d) :: kvs)
structure KDG (P : Params) (K : PySem.W.Frag) (d : Addr) (kvs : List (Str × D)) : Prop where
  at_ : ∃ (es : List DictEntry) (n : Nat), K.lookup d = some ⟨.type "dict", none, .dict es.toArray n, #[]⟩ ∧ EntK P K es kvs
  low : (d == sysModules) = false
theorem EntK.lit {P : Params} {K : PySem.W.Frag} {es : List DictEntry} {kvs : List (Str × D)} (h : EntK P K es kvs) : PySem.W.KeysLit P es := by
  induction h with
  | nil => exact True.intro
  | cons h hs ih => exact ⟨⟨_, _, rfl, rfl⟩, ih⟩
theorem EntK.find {P : Params} {K : PySem.W.Frag} {es : List DictEntry} {kvs : List (Str × D)} {z : Str} (h : EntK P K es kvs) : (valG kvs z = none ∧ findBy Value.isStrOf es.toArray z = none) ∨ ∃ d u, valG kvs z = some d ∧ findBy Value.isStrOf es.toArray z = some u ∧ LitV K u d := by
  unfold findBy
  rw [List.find?_toArray]
  induction h with
  | nil => exact .inl ⟨rfl, rfl⟩
  | @cons x t u d es kvs h hs ih =>
    rw [valG_cons, List.find?_cons]
    by_cases e : x = z
    · subst e
      refine .inr ⟨d, u, if_pos rfl, ?_, h⟩
      have : Value.isStrOf x (Value.str x t) = true := by simp [Value.isStrOf]
      simp [this]
    · have e2 : Value.isStrOf z (Value.str x t) = false := by
        simp [Value.isStrOf]
        first | exact e | exact fun q => e q.symm
      simp only [e2, if_neg e]
      exact ih
def mKGet (kvs : List (Str × D)) (k : ME) : ME := fun τ S => (k τ S).bind fun y S1 => match y with
  | .str x => .ok ((valG kvs x).getD .non) S1
  | _ => .bad
def dKIn (neg : Bool) (kvs : List (Str × D)) (k : ME) : ME := fun τ S => (k τ S).bind fun y S1 => match y with
  | .str x => .ok (.bl (if neg then !(valG kvs x).isSome else (valG kvs x).isSome)) S1
  | _ => .bad
section
variable {X : Cx} {W : WX} {x : Str} {d : Addr} {kvs : List (Str × D)} {e : Expr} {m : ME} {p apos cpos pos : Pos}
theorem KDG.map {pins : List (Addr × Obj)} {σ : L2.St} {H : Hp} {s : Shared} (D : KDG X.w.params X.K d kvs) (I : Inv X pins σ H s) : ∃ f, s.heap.MapOf (strKind X.prog X.w) d f ∧ ∀ z, (valG kvs z = none ∧ f z = none) ∨ ∃ q u, valG kvs z = some q ∧ f z = some u ∧ LitV X.K u q := by
  obtain ⟨es, n, h1, h2⟩ := D.at_
  exact ⟨_, PySem.W.mapOf_K (prog := X.prog) I.kIn h1 (by simpa using h2.lit), fun z => h2.find⟩
theorem z_kget (hm : X.mg x = some (.ref d)) (D : KDG X.w.params X.K d kvs) (he : PE X e (Em X.K W m)) (hg : Gl X x := by rfl) (hdb : (x == ("__debug__" : Str)) = false := by decide)
    (b1 : attributeBase (.Name x p) "get" X.env (eval (.Name x p) X.env) = eval (.Name x p) X.env := by rfl) (b2 : ((backTo cpos (starEach [e] X.env)).all (fun x => !x.1) && (backToKw cpos (keywordEach [] X.env)).all (fun x => x.1.isSome)
    && decide (([e] : List Expr).length + ([] : List Keyword).length + (if ([] : List Keyword).isEmpty then 0 else 1) < 30)) = true := by rfl) (b3 : (apos.endLine == cpos.line) = true := by rfl) (b4 : backTo cpos (starEach [e] X.env) = [(false, eval e X.env)] := by rfl) :
    PE X (.Call (.Attribute (.Name x p) "get" apos) [e] [] cpos) (Em X.K W (mKGet kvs m)) := by
  constructor
  intro pins s σ H Q I ⟨ρ, τ, S, sr, r, po⟩
  refine wpAny_Call_method b1 b2 b3 PySem.F.plainAttrs_dict PySem.F.slot_dict_get PySem.F.type_dict_get (thn ((pe_glob (X := X) (pos := p) (v := .ref d) hg hm rfl hdb).run pins s σ H (fun v H1 => v = .ref d ∧ H1 = H) I ⟨rfl, rfl⟩) fun u s1 ⟨v, H1, I1, rx, ev, eh⟩ => ?_)
  subst ev eh
  obtain rfl : u = Value.ref d := rx
  obtain ⟨f, hm1, hf⟩ := D.map I1
  refine ⟨hm1.typeIs, fun b q => ?_, ?_⟩
  · cases q
    obtain ⟨o, _, _, g1, g2, _⟩ := hm1
    exact ⟨o, g1, g2.2.1⟩
  rw [b4]
  refine Calls.callWith_builtin rfl (Calls.evalArgs_plain (Calls.spliced_cons (thn (he.run pins s1 σ H1 (fun y H2 => ∃ z, y = .str z ∧ ∀ (o : V), (∃ d, o = d ∧ (∀ ρ H, VR X.K ρ H d ((valG kvs z).getD .non))) → Q o H2) I1 (Em_bind sr r po fun ρ1 H1 S1 v d s1 r1 x1 v1 p1 => ?_)) fun iv s2 ⟨y, H2, I2, ry, z, ey, q2⟩ => Calls.spliced_nil ?_)))
  · split at p1
    · cases v1
      exact ⟨_, rfl, fun o ⟨d, e1, e2⟩ => by subst e1; exact p1.here s1 (e2 _ _)⟩
    · exact p1.elim
  · subst ey
    obtain ⟨t, rfl⟩ := (show ∃ t, iv = Value.str z t from ry)
    obtain ⟨f2, hm2, hf2⟩ := D.map I2
    have fin : ∀ (u : Value) (o : V), RelV o u → (∀ ρ H, VR X.K ρ H o ((valG kvs z).getD .non)) → f2 z = some u ∨ (f2 z = none ∧ u = .none) → wpAny (model X.prog X.w) X.A (call (.builtin "dict.get") [.ref d, .str z t]) (EP X pins σ Q) X.xe s2 := by
      intro u o ro vr hu
      refine call_meetsIn PySem.F.slot_dict_get hm2.typeIs PySem.F.entry_dict_get (PySem.F.args_dict_get_2 _ _) (meets_dict_get (strKind X.prog X.w) d (strKind_is X.prog X.w z t) D.low) ⟨f2, hm2, ?_⟩
      have e : (f2 z).getD Value.none = u := by
        rcases hu with h | ⟨h, rfl⟩ <;> rw [h] <;> rfl
      rw [e]
      exact ⟨o, H2, I2.tok _, ro, q2 o ⟨o, rfl, vr⟩⟩
    rcases hf2 z with ⟨e1, e2⟩ | ⟨q, u, e1, e2, lv⟩
    · exact fin .none .non rfl (fun _ _ => by rw [e1]; exact .non) (.inr ⟨e2, rfl⟩)
    · obtain ⟨o, ro, vr⟩ := lv.vr
      exact fin u o ro (fun ρ H => by rw [e1]; exact vr ρ H) (.inl e2)
theorem op_knin (D : KDG X.w.params X.K d kvs) : OpR X (compareOp .NotIn) (fun x y H Q => ∃ z, x = .str z ∧ y = .ref d ∧ Q (.bl (!(valG kvs z).isSome)) H) := by
  intro pins s σ H x y v u Q I rx ry ⟨z, e1, e2, q⟩
  subst e1 e2
  obtain ⟨t, rfl⟩ := rx
  cases ry
  obtain ⟨f, hm1, hf⟩ := D.map I
  refine wpAny_notIn_of (strKind_is X.prog X.w z t) D.low hm1 ?_
  have e : (f z).isSome = (valG kvs z).isSome := by
    rcases hf z with ⟨e1, e2⟩ | ⟨q, u, e1, e2, _⟩ <;> rw [e1, e2] <;> rfl
  rw [e]
  exact ⟨.bl _, H, I.tok _, rfl, q⟩
theorem t_knin (hm : X.mg x = some (.ref d)) (D : KDG X.w.params X.K d kvs) (he : PE X e (Em X.K W m)) (hg : Gl X x := by rfl) (hdb : (x == ("__debug__" : Str)) = false := by decide) (hmk : behindInMarks .NotIn (.Name x p) = false := by rfl) : PT X (.Compare e [.NotIn] [.Name x p] pos) (Tm X.K W (mB (dKIn true kvs m))) := by
  refine PT_imp (pt_cmpR (op_knin D) he (pe_glob (v := .ref d) hg hm rfl hdb) hmk) fun σ H Q ⟨ρ, τ, S, s, r, p1⟩ => ?_
  have p1' : Post X.K (fun c d H' => W c d σ H') ρ H ((m τ S).bind fun y S1 => (match y with
    | .str x => R.ok (Z.D.bl (if true then !(valG kvs x).isSome else (valG kvs x).isSome)) S1
    | _ => .bad).bind asB) relB Q := by
    have e : mB (dKIn true kvs m) τ S = ((m τ S).bind fun y S1 => (match y with
      | .str x => R.ok (Z.D.bl (if true then !(valG kvs x).isSome else (valG kvs x).isSome)) S1
      | _ => .bad).bind asB) := by
      unfold mB dKIn
      cases m τ S <;> rfl
    rw [← e]; exact p1
  refine Em_bind s r p1' fun ρ1 H1 S1 v dd s1 r1 x1 v1 p2 => ?_
  cases dd with
  | str z =>
    cases v1
    exact ⟨_, rfl, rfl, _, rfl, p2.here s1 rfl⟩
  | _ => exact p2.elim
end
/-! ### texts -/
theorem cps_inj {a b : List Nat} (h : (⟨a.toArray⟩ : Str) = ⟨b.toArray⟩) : a = b := by
  injection h with h
  simpa using h
theorem ofString_inj {a b : String} : (Str.ofString a = Str.ofString b) ↔ a = b := by
  constructor
  · intro h
    rw [Str.ofString_eq_toList, Str.ofString_eq_toList] at h
    have h1 := cps_inj h
    have : a.toList = b.toList := by
      have inj : ∀ c d : Char, c.toNat = d.toNat → c = d := fun c d e => Char.toNat_inj.mp e
      exact (List.map_inj_right fun c d e => inj c d e).mp h1
    exact String.toList_inj.mp this
  · rintro rfl; rfl
end Z

/-! Z37: list(range(a, b)); methods of lists. -/
namespace Z
open PySem L2 PySem.Spec
/-! ### list(range(a, b)) -/
def mLstRg (a b : ME) : ME := fun τ S => (a τ S).bind fun x S1 => (b τ S1).bind fun y S2 => match x, y with
  | .int i, .int j => guardR (-(2 ^ 62) ≤ i ∧ i < 2 ^ 62 ∧ -(2 ^ 62) ≤ j ∧ j < 2 ^ 62 ∧ (j - i).toNat ≤ 2 ^ 24) (.ok (.lst ((rgI i j).map D.int)) S2)
  | _, _ => .bad
section
variable {X : Cx} {W : WX} {a b : Expr} {ma mb : ME} {p p2 pos pos2 : Pos}
end
/-! ### xs.pop(), xs.pop(i), xs.reverse(), xs.clear() -/
section
variable {K : PySem.W.Frag}
end
/-! ### xs.count(y), xs.index(y) over data -/
def findOk (ps : List PyData) (q : PyData) : Bool := (PyData.plainAll ps && q.plain && decide (q.depth ≤ 64)) && decide (ps.length ≤ 16777216)
def rCntP (X : Cx) : V → List V → Hp → VK → Prop := fun x vs H Q => ∃ y ps q, vs = [y] ∧ RdP X H x (.list ps) ∧ RdP X H y q ∧ (∃ a, x = .ref a) ∧ findOk ps q = true ∧ Q (.int (ps.countP fun z => PyData.eqv z q : Nat)) H
def rIdxP (X : Cx) : V → List V → Hp → VK → Prop := fun x vs H Q => ∃ y ps q j, vs = [y] ∧ RdP X H x (.list ps) ∧ RdP X H y q ∧ (∃ a, x = .ref a) ∧ findOk ps q = true ∧ SeqAt.dataPlace ps q = some j ∧ Q (.int (j : Nat)) H
def dCountP : D → List D → Sto → R D
  | d, [y], S => (match toPy d S, toPy y S with
    | some (.list ps), some q => if findOk ps q = true then .ok (.int (ps.countP fun z => PyData.eqv z q : Nat)) S else .bad
    | _, _ => .bad)
  | _, _, _ => .bad
def dIndexP : D → List D → Sto → R D
  | d, [y], S => (match toPy d S, toPy y S with
    | some (.list ps), some q => if findOk ps q = true then ofO ((SeqAt.dataPlace ps q).map fun j => .int (j : Nat)) S else .bad
    | _, _ => .bad)
  | _, _, _ => .bad
theorem list_ref {X : Cx} {ρ : Pl} {H : Hp} {S : Sto} {v : V} {d : D} {ps : List PyData} (r : VR X.K ρ H v d) (h : toPy d S = some (.list ps)) : ∃ a, v = .ref a := by
  cases r <;> first | exact ⟨_, rfl⟩ | (simp [toPy, toPyD] at h)
theorem dCountP_ok {X : Cx} : MethS X.K dCountP (rCntP X) := fun Wk ρ S H v d vs ds Q s r rs h => by
  unfold dCountP at h
  split at h
  · obtain ⟨y, rfl, ry⟩ := vrs1 rs
    split at h
    · rename_i ps q e1 e2
      split at h
      · rename_i c
        exact ⟨y, ps, q, rfl, rdP_of s r e1, rdP_of s ry e2, list_ref r e1, c, h.here s (.int _)⟩
      · exact h.elim
    · exact h.elim
  · exact h.elim
theorem dIndexP_ok {X : Cx} : MethS X.K dIndexP (rIdxP X) := fun Wk ρ S H v d vs ds Q s r rs h => by
  unfold dIndexP at h
  split at h
  · obtain ⟨y, rfl, ry⟩ := vrs1 rs
    split at h
    · rename_i ps q e1 e2
      split at h
      · rename_i c
        obtain ⟨z, e, p⟩ := ofO_post h
        simp only [Option.map_eq_some_iff] at e
        obtain ⟨j, ej, rfl⟩ := e
        exact ⟨y, ps, q, j, rfl, rdP_of s r e1, rdP_of s ry e2, list_ref r e1, c, ej, p.here s (.int _)⟩
      · exact h.elim
    · exact h.elim
  · exact h.elim
section
variable {X : Cx} {W : WX} {o e : Expr} {m : ME} {ms : MA} {apos cpos : Pos}
theorem mt_cntP (hu : X.A.units + 100 < cLine) : MtR X "list.count" (rCntP X) := by
  intro pins st σ H x xs v us Q I rx rxs ⟨y, ps, q, e1, hx, hy, ⟨a, e2⟩, ok, k⟩
  subst e1 e2
  obtain ⟨u, rfl, ru⟩ := rxs.one
  obtain rfl : v = Value.ref a := rx
  obtain ⟨as, r1⟩ := hx pins σ st _ I rfl
  obtain ⟨bs, r2⟩ := hy pins σ st u I ru
  simp only [findOk, Bool.and_eq_true, decide_eq_true_eq] at ok
  cases r1 with
  | list ho hc hd hr =>
    exact SeqAt.count_list_data (vs := _) ⟨_, ho, hc, _, hd⟩ hr r2 ok.1.1.1 ok.1.1.2 (by omega) ⟨.int _, H, I.tok _, ⟨_, rfl⟩, k⟩
theorem mt_idxP (hu : X.A.units + 100 < cLine) : MtR X "list.index" (rIdxP X) := by
  intro pins st σ H x xs v us Q I rx rxs ⟨y, ps, q, j, e1, hx, hy, ⟨a, e2⟩, ok, ej, k⟩
  subst e1 e2
  obtain ⟨u, rfl, ru⟩ := rxs.one
  obtain rfl : v = Value.ref a := rx
  obtain ⟨as, r1⟩ := hx pins σ st _ I rfl
  obtain ⟨bs, r2⟩ := hy pins σ st u I ru
  simp only [findOk, Bool.and_eq_true, decide_eq_true_eq] at ok
  cases r1 with
  | list ho hc hd hr =>
    rename_i ob vs n as
    obtain ⟨hj, h1, h2⟩ := SeqAt.hit_at hr ok.1.1.1 ej
    have hl := SeqAt.len_at hr
    obtain ⟨cls, dd, data, sl⟩ := ob
    simp only at hc hd
    subst hc hd
    have hu2 : X.A.units + 1 + min (PyData.depthAll ps) q.depth < cLine := by omega
    exact call_meets F.slot_list_index ⟨_, ho, rfl⟩ F.entry_list_index (F.args_list_index_2 _ _) (SeqAt.list_indexAt _ vs n dd sl u (fun z => PyData.eqv (SeqAt.readOf st.heap z) q) j hj (by omega) h1 h2) ⟨ho, SeqAt.items_plain hr r2 ok.1.1.1 ok.1.1.2 hu2, ⟨.int (j : Nat), H, I.tok _, ⟨_, rfl⟩, k⟩⟩
/-- a method of a built-in type with one argument; with none -/
theorem z_m1 {T id : String} {name : Str} {r : V → List V → Hp → VK → Prop} {f : D → List D → Sto → R D} {es : List Expr} (pa : PlainAttrs T) (slot : Slot T name id) (hty : typeOf (.builtin id) = pure (.type "method_descriptor")) (hm : MtR X id r) (hs : MethS X.K f r) (ho : PE X o (Em X.K W m)) (ha : PA X (e :: es) (Am X.K W ms))
    (hbase : attributeBase o name X.env (eval o X.env) = eval o X.env := by rfl)
    (hfew : ((backTo cpos (starEach (e :: es) X.env)).all (fun x => !x.1) && (backToKw cpos (keywordEach [] X.env)).all (fun x => x.1.isSome) && decide ((e :: es).length + ([] : List Keyword).length + (if ([] : List Keyword).isEmpty then 0 else 1) < 30)) = true := by rfl)
    (hline : (apos.endLine == cpos.line) = true := by rfl) (hst : starEach (e :: es) X.env = (false, eval e X.env) :: starEach es X.env := by rfl) (hplain : (backTo cpos (starEach es X.env)).any (·.1) = false := by rfl) :
    PE X (.Call (.Attribute o name apos) (e :: es) [] cpos) (Em X.K W (mMeth T f m ms)) := z_meth pa slot hty hm hs ho ha (pe_bm pa slot hty hm ho ha hbase hfew hline hst hplain)
end
end Z

/-! Z38: the plain side of dicts, locks, while. -/
namespace Z
open PySem L2
/-- what a raise of an error without fields does: told by the law that stands around -/
class Rz where
  rz : Str → MS
end Z

/-! Z39: sorted(xs): whole numbers; rows, of a list or a tuple. -/
namespace Z
open PySem L2 PySem.Spec PyProof.Rows
section
variable {P : Program} {w : World} {A : Around} {E : Value → Shared → Prop} {s : Shared}
end
end Z

/-! Z40: reversed(x). -/
namespace Z
open PySem L2 PySem.Spec
def revOf : D → Sto → Option Items
  | .tup ds, _ => some ⟨ds.reverse, []⟩
  | d, S => (listR d S).map fun ds => ⟨ds.reverse, keepOf d S⟩
def iRev (m : ME) : MI := fun τ S => (m τ S).bind fun d S1 => ofO (revOf d S1) S1
section
variable {K : PySem.W.Frag} {ρ0 : Pl} {H0 : Hp}
end
section
variable {X : Cx} {W : WX} {tg e : Expr} {m : ME} {p pos : Pos}
end
end Z

/-! Z41: rules of the plain side: dicts, locks, while, longer rows for repr. -/
namespace Z
open PySem L2
section
variable {S : Sto} {l : Nat} {ds : List D} {i : Int} {τ : Tau}
@[simp] theorem x_ixAT : dIxA (.tup ds) (.int i) S = ofO (atI ds i) S := rfl
@[simp] theorem x_ixAK : dIxA (.ktup ds) (.int i) S = ofO (atI ds i) S := rfl
@[simp] theorem x_ixAL : dIxA (.lst ds) (.int i) S = ofO (atI ds i) S := rfl
@[simp] theorem x_ixAC : dIxA (.scr ds) (.int i) S = ofO (atI ds i) S := rfl
@[simp] theorem x_ixAdS {ks : List Key} {x : Str} : dIxA (.dct ks ds) (.str x) S = ofO (valG (List.zip ks ds) (.inr x)) S := rfl
@[simp] theorem x_ixAdI {ks : List Key} : dIxA (.dct ks ds) (.int i) S = ofO (valG (List.zip ks ds) (.inl i)) S := rfl
theorem x_ixLl (h : S[l]? = some (.lst ds)) : dIxA (.loc l) (.int i) S = ofO (atI ds i) S := by
  have e : dLook (.loc l) (.int i) S = none := by simp [dLook, h]
  unfold dIxA
  rw [e]
  exact x_ixLoc h
theorem x_ixKS {b : Bool} {kvs : List (Key × D)} {x : Str} (h : S[l]? = some (.dK b kvs)) : dIxA (.loc l) (.str x) S = ofO (valG kvs (.inr x)) S := by
  have e : dLook (.loc l) (.str x) S = some (valG kvs (.inr x)) := by simp [dLook, h, kOf]
  unfold dIxA
  rw [e]
theorem look_KS {b : Bool} {kvs : List (Key × D)} {x : Str} (h : S[l]? = some (.dK b kvs)) : dLook (.loc l) (.str x) S = some (valG kvs (.inr x)) := by simp [dLook, h, kOf]
@[simp] theorem look_dS {ks : List Key} {x : Str} : dLook (.dct ks ds) (.str x) S = some (valG (List.zip ks ds) (.inr x)) := rfl
@[simp] theorem look_dI {ks : List Key} : dLook (.dct ks ds) (.int i) S = some (valG (List.zip ks ds) (.inl i)) := rfl
@[simp] theorem x_subA (o i v : ME) : sSubA o i v τ S = liftS (v τ S) τ fun y S1 => liftS (o τ S1) τ fun a S2 => liftS (i τ S2) τ fun x S3 => match dPut a x y S3 with
    | some S4 => .nx τ S4
    | none => .bad := rfl
@[simp] theorem x_tupS (ts : List TgS) (m : ME) : sTupS ts m τ S = liftS (m τ S) τ fun d S1 => match d with
  | .tup ds => if ds.length = ts.length then asgAll ts ds τ S1 else .bad
  | _ => .bad := rfl
@[simp] theorem x_asg0 : asgAll [] [] τ S = .nx τ S := rfl
@[simp] theorem x_asg1 (t : TgS) (ts : List TgS) (d : D) : asgAll (t :: ts) (d :: ds) τ S = asgS t d τ S fun τ' S' => asgAll ts ds τ' S' := rfl
@[simp] theorem x_asgN (i : Nat) (d : D) (k : Tau → Sto → RS) : asgS (.nm i) d τ S k = k (τ.set i (some d)) S := rfl
@[simp] theorem x_asgS (o i : ME) (d : D) (k : Tau → Sto → RS) : asgS (.sub o i) d τ S k = liftS (o τ S) τ fun a S2 => liftS (i τ S2) τ fun x S3 => match dPut a x d S3 with
    | some S4 => k τ S4
    | none => .bad := rfl
theorem put_L {d : D} {j : Nat} (h : S[l]? = some (.lst ds)) (hj : ixN ds.length i = some j) : dPut (.loc l) (.int i) d S = some (S.set l (.lst (ds.set j d))) := by
  simp [dPut, h, hj]
@[simp] theorem x_disp (ps : List (ME × ME)) : mDisp ps τ S = (pairsR ps τ S).bind fun kvs S1 => guardR (dispOk kvs) (.ok (.dct (kvs.map (·.1)) (kvs.map (·.2))) S1) := rfl
@[simp] theorem x_dispN (ps : List (ME × ME)) : mDispN ps τ S = (pairsR ps τ S).bind fun kvs S1 => guardR (dispOk kvs) (.ok (.loc S1.length) (S1 ++ [.dK false kvs])) := rfl
@[simp] theorem x_pairs0 : pairsR [] τ S = .ok [] S := rfl
@[simp] theorem x_pairs1 (p : ME × ME) (r : List (ME × ME)) : pairsR (p :: r) τ S = (p.1 τ S).bind fun x S1 => (p.2 τ S1).bind fun y S2 => (pairsR r τ S2).bind fun ps S3 => match kOf x with
    | some k => .ok ((k, y) :: ps) S3
    | none => .bad := rfl
@[simp] theorem x_kOfS {x : Str} : kOf (.str x) = some (.inr x) := rfl
@[simp] theorem x_kOfI : kOf (.int i) = some (.inl i) := rfl
@[simp] theorem x_dctN : mDctN τ S = .ok (.loc S.length) (S ++ [.dK false []]) := rfl
@[simp] theorem x_dctT : mDctT τ S = .ok (.loc S.length) (S ++ [.dT false []]) := rfl
@[simp] theorem x_get1 (d y : D) : dGet1 d [y] S = match dLook d y S with
    | some o => .ok (o.getD .non) S
    | none => .bad := rfl
@[simp] theorem x_get2 (d y z : D) : dGet2 d [y, z] S = match dLook d y S with
    | some o => .ok (o.getD z) S
    | none => .bad := rfl
@[simp] theorem x_kget (kvs : List (Str × D)) (k : ME) : mKGet kvs k τ S = (k τ S).bind fun y S1 => match y with
  | .str x => .ok ((valG kvs x).getD .non) S1
  | _ => .bad := rfl
@[simp] theorem x_kin (b : Bool) (kvs : List (Str × D)) (k : ME) : dKIn b kvs k τ S = (k τ S).bind fun y S1 => match y with
  | .str x => .ok (.bl (if b then !(valG kvs x).isSome else (valG kvs x).isSome)) S1
  | _ => .bad := rfl
@[simp] theorem x_inA (x y : D) : dInA x y S = ofO ((inP x y S).map .bl) S := rfl
@[simp] theorem x_notInA (x y : D) : dNotInA x y S = ofO ((inP x y S).map fun b => .bl (!b)) S := rfl
@[simp] theorem x_lstRg (a b : ME) : mLstRg a b τ S = (a τ S).bind fun x S1 => (b τ S1).bind fun y S2 => match x, y with
  | .int i, .int j => guardR (-(2 ^ 62) ≤ i ∧ i < 2 ^ 62 ∧ -(2 ^ 62) ≤ j ∧ j < 2 ^ 62 ∧ (j - i).toNat ≤ 2 ^ 24) (.ok (.lst ((rgI i j).map D.int)) S2)
  | _, _ => .bad := rfl
@[simp] theorem x_iItm (m : ME) : iItm m τ S = (m τ S).bind fun d S1 => ofO (itemsOfD d S1) S1 := rfl
@[simp] theorem x_iVal (m : ME) : iVal m τ S = (m τ S).bind fun d S1 => ofO (valsOf d S1) S1 := rfl
@[simp] theorem x_iRev (m : ME) : iRev m τ S = (m τ S).bind fun d S1 => ofO (revOf d S1) S1 := rfl
@[simp] theorem x_fld (c f : Str) (m : ME) : mFld c f m τ S = (m τ S).bind fun d S1 => match d with
  | .loc l => (match S1[l]? with
    | some (.ins c' fs) => if c' = c then ofO (fs.lookup f) S1 else .bad
    | _ => .bad)
  | _ => .bad := rfl
@[simp] theorem x_fldA (c f : Str) (o v : ME) : sFldA c f o v τ S = liftS (v τ S) τ fun y S1 => liftS (o τ S1) τ fun d S2 => match d with
  | .loc l => (match S2[l]? with
    | some (.ins c' fs) => if c' = c ∧ fs.length < 1000 then .nx τ (S2.set l (.ins c (putD f y fs))) else .bad
    | _ => .bad)
  | _ => .bad := rfl
@[simp] theorem x_methO (c m : Str) (h : List D → Sto → R D) (o : ME) (r : MA) : mMethO c m h o r τ S = (o τ S).bind fun d S1 => match d with
  | .loc l => (match S1[l]? with
    | some (.ins c' fs) => if c' = c ∧ fs.lookup m = none then (r τ S1).bind fun ds S2 => noEx (h (.loc l :: ds) S2) else .bad
    | _ => .bad)
  | _ => .bad := rfl
@[simp] theorem x_make (c : Str) (h : List D → Sto → R D) (r : MA) : mMake c h r τ S = (r τ S).bind fun ds S1 => (noEx (h (.loc S1.length :: ds) (S1 ++ [.ins c []]))).bind fun d S2 => match d with
  | .non => .ok (.loc S1.length) S2
  | _ => .bad := rfl
end
/-! ### locks -/
section
variable {S : Sto} {l : Nat} {τ : Tau} {N : Tau → Sto → Prop} {T : D → Sto → Prop}
theorem keepOk1 {c : C} : keepOk [(l, c)] S ↔ S[l]? = some c := keepB_iff.symm.trans keep1
theorem for_wpK {ks : List (Nat × C)} {g : Tgt} {body : MS} (Inv : List D → Tau → Sto → Prop) (hk : ∀ es τ S, Inv es τ S → keepOk ks S) (step : ∀ d ds τ S, Inv (d :: ds) τ S → ∃ τ1, bindT g d τ = some τ1 ∧ wpS (body τ1 S) (fun τ2 S2 => Inv ds τ2 S2) T)
    (fin : ∀ τ S, Inv [] τ S → N τ S) : ∀ ds τ S, Inv ds τ S → wpS (forL ks g body ds τ S) N T
  | [], τ, S, h => by
    unfold forL
    rw [if_pos (keepB_iff.mpr (hk _ _ _ h))]
    exact fin τ S h
  | d :: ds, τ, S, h => by
    unfold forL
    rw [if_pos (keepB_iff.mpr (hk _ _ _ h))]
    obtain ⟨τ1, e, w⟩ := step d ds τ S h
    rw [e]
    show wpS (match body τ1 S with | .nx τ2 S2 => forL ks g body ds τ2 S2 | .ct τ2 S2 => forL ks g body ds τ2 S2 | .bk τ2 S2 => .nx τ2 S2 | o => o) N T
    cases q : body τ1 S <;> rw [q] at w
    case nx τ2 S2 => exact for_wpK Inv hk step fin ds τ2 S2 w
    all_goals first | exact False.elim w | exact w
/-- a comprehension whose things allot cells -/
theorem lc_wpI {ks : List (Nat × C)} {g : Tgt} {vs : List Nat} {tm : MT} {e : ME} (Inv : List D → List D → Sto → Prop) (hk : ∀ a b S, Inv a b S → keepOk ks S) (step : ∀ d ds acc S, Inv (d :: ds) acc S → ∃ τ1, bindT g d (wipeT τ vs) = some τ1 ∧ wpR (tm τ1 S) fun b S1 => (b = true → wpR (e τ1 S1) fun y S2 => Inv ds (acc ++ [y]) S2) ∧ (b = false → Inv ds acc S1)) :
    ∀ ds acc S, Inv ds acc S → wpR (lcL ks g vs tm e ds τ S) fun ys S' => Inv [] (acc ++ ys) S'
  | [], acc, S, h => by
    unfold lcL
    rw [if_pos (keepB_iff.mpr (hk _ _ _ h))]
    show Inv [] (acc ++ []) S
    rw [List.append_nil]; exact h
  | d :: ds, acc, S, h => by
    unfold lcL
    rw [if_pos (keepB_iff.mpr (hk _ _ _ h))]
    obtain ⟨τ1, e1, w⟩ := step d ds acc S h
    rw [e1]
    show wpR ((noEx (tm τ1 S)).bind _) _
    rw [wpR_bind, wpR_noEx]
    refine wpR_imp w fun b S1 ⟨h1, h2⟩ => ?_
    cases b with
    | true =>
      rw [if_pos rfl, wpR_bind, wpR_noEx]
      refine wpR_imp (h1 rfl) fun y S2 h3 => ?_
      rw [wpR_bind]
      refine wpR_imp (lc_wpI Inv hk step ds (acc ++ [y]) S2 h3) fun ys S3 h4 => ?_
      show Inv [] (acc ++ y :: ys) S3
      simpa using h4
    | false =>
      rw [if_neg (by simp)]
      exact lc_wpI Inv hk step ds acc S1 (h2 rfl)
/-! ### while -/
end
/-! ### repr of longer rows: as many things on each level as told -/
def Gq : List Nat → D → Bool
  | _, .non => true
  | _, .bl _ => true
  | _, .int i => decide (i.natAbs < 10 ^ 31)
  | _, .str x => decide (x.length ≤ 8) && x.cps.toList.all fun c => decide (c < 16 ^ 8)
  | k :: ks, .tup ds => decide (ds.length ≤ k) && ds.all (Gq ks)
  | k :: ks, .lst ds => decide (ds.length ≤ k) && ds.all (Gq ks)
  | _, _ => false
def Wq : List Nat → Nat
  | [] => 82
  | k :: ks => k * (Wq ks + 2) + 85
theorem Gq_tup {k : Nat} {ks : List Nat} {ds : List D} (h : ds.length ≤ k) (h2 : ∀ d ∈ ds, Gq ks d = true) : Gq (k :: ks) (.tup ds) = true := by
  simp only [Gq, Bool.and_eq_true, decide_eq_true_eq, List.all_eq_true]; exact ⟨h, h2⟩
theorem Gq_int {ks : List Nat} {i : Int} (h0 : -100000 < i) (h1 : i < 100000) : Gq ks (.int i) = true := by
  have : i.natAbs < 10 ^ 31 := Nat.lt_trans (show i.natAbs < 100000 by omega) (by decide)
  cases ks <;> simp only [Gq, decide_eq_true_eq] <;> exact this
structure PyQ (ks : List Nat) (d : D) (p : PyData) : Prop where
  py : toPyD d = some p
  sh : p.showable = true
  nd : p.hasDict = false
  dp : p.depth ≤ ks.length
  ln : p.shown.length ≤ Wq ks
theorem Wq_pos : ∀ ks, 82 ≤ Wq ks
  | [] => Nat.le_refl _
  | k :: ks => by unfold Wq; omega
theorem Gq_all {ks : List Nat} : ∀ {ds : List D}, (∀ d ∈ ds, ∃ p, PyQ ks d p) → ∃ ps, toPyDs ds = some ps ∧ PyData.showableAll ps = true ∧ PyData.hasDictAll ps = false ∧ PyData.depthAll ps ≤ ks.length ∧ ((PyData.shownAll ps).map (·.length)).sum + 2 * (PyData.shownAll ps).length ≤ ds.length * (Wq ks + 2)
  | [], _ => ⟨[], rfl, rfl, rfl, Nat.zero_le _, by simp [PyData.shownAll]⟩
  | d :: ds, h => by
    obtain ⟨p, hp⟩ := h d (by simp)
    obtain ⟨ps, h1, h2, h3, h4, h6⟩ := Gq_all (ks := ks) (ds := ds) fun d hd => h d (by simp [hd])
    refine ⟨p :: ps, ?_, ?_, ?_, ?_, ?_⟩
    · simp only [toPyDs, hp.py, h1]
    · simp only [PyData.showableAll, hp.sh, h2, Bool.and_self]
    · simp only [PyData.hasDictAll, hp.nd, h3, Bool.or_self]
    · simp only [PyData.depthAll]; have := hp.dp; omega
    · simp only [PyData.shownAll, List.map_cons, List.sum_cons, List.length_cons]
      have := hp.ln
      rw [Nat.add_mul]
      omega
theorem Gq_py : ∀ (ks : List Nat) (d : D), Gq ks d = true → ∃ p, PyQ ks d p := by
  have atom : ∀ (ks : List Nat) (d : D), Gd 0 d = true → ∃ p, PyQ ks d p := fun ks d h => by
    obtain ⟨p, hp⟩ := Gd_py 0 d h
    exact ⟨p, hp.py, hp.sh, hp.nd, by have := hp.dp; omega, by have := hp.ln; have := Wq_pos ks; simp [Wd] at *; omega⟩
  intro ks
  induction ks with
  | nil =>
    intro d h
    refine atom [] d ?_
    cases d <;> simp only [Gq, Gd] at h ⊢ <;> first | exact h | rfl | cases h
  | cons k ks ih =>
    intro d h
    cases d with
    | tup ds =>
      simp only [Gq, Bool.and_eq_true, decide_eq_true_eq, List.all_eq_true] at h
      obtain ⟨ps, h1, h2, h3, h4, h6⟩ := Gq_all (ks := ks) fun d hd => ih d (h.2 d hd)
      refine ⟨.tuple ps, by simp [toPyD, h1], by simpa [PyData.showable] using h2, by simpa [PyData.hasDict] using h3, by simp only [PyData.depth, List.length_cons]; omega, ?_⟩
      have e := tupleText_len_le (PyData.shownAll ps)
      have e2 := Nat.mul_le_mul_right (Wq ks + 2) h.1
      show (tupleText (PyData.shownAll ps)).length ≤ k * (Wq ks + 2) + 85
      omega
    | lst ds =>
      simp only [Gq, Bool.and_eq_true, decide_eq_true_eq, List.all_eq_true] at h
      obtain ⟨ps, h1, h2, h3, h4, h6⟩ := Gq_all (ks := ks) fun d hd => ih d (h.2 d hd)
      refine ⟨.list ps, by simp [toPyD, h1], by simpa [PyData.showable] using h2, by simpa [PyData.hasDict] using h3, by simp only [PyData.depth, List.length_cons]; omega, ?_⟩
      have e := listText_len_le (PyData.shownAll ps)
      have e2 := Nat.mul_le_mul_right (Wq ks + 2) h.1
      show (listText (PyData.shownAll ps)).length ≤ k * (Wq ks + 2) + 85
      omega
    | _ =>
      refine atom (k :: ks) _ ?_
      simp only [Gq, Gd] at h ⊢ <;> first | exact h | rfl | cases h
/-- what repr says of data that are short enough -/
theorem repr_of {d : D} {S : Sto} {p : PyData} (h : toPy d S = some p) (h1 : p.showable = true) (h2 : p.hasDict = false) (h3 : p.depth ≤ 64) (h4 : p.shown.length ≤ 16777216) : dRepr [d] S = .ok (.str p.shown) S := by
  show (match toPy d S with | some p => _ | none => _) = _
  rw [h]
  simp [reprOk, h1, h2, h3, show p.shown.length ≤ sizeLine from h4]
theorem repr_q {ks : List Nat} {d : D} {S : Sto} (h : Gq ks d = true) (hk : ks.length ≤ 64) (hw : Wq ks ≤ 16777216) : ∃ p, toPyD d = some p ∧ dRepr [d] S = .ok (.str p.shown) S := by
  obtain ⟨p, hp⟩ := Gq_py ks d h
  exact ⟨p, hp.py, repr_of (toPy_of hp.py) hp.sh hp.nd (by have := hp.dp; omega) (by have := hp.ln; omega)⟩
end Z

/-! Z42: enumerate of a tuple or a list. -/
namespace Z
open PySem L2
section
variable {X : Cx} {W : WX} {a : Expr} {ms : MA} {p pos : Pos}
end
end Z

/-! Z43: sorted, the list changed later. -/
namespace Z
open PySem L2
end Z

/-! Z44: ranges with a step; list(range(..)) of one and three; dict(pairs); dicts compared. -/
namespace Z
open PySem L2 PySem.Spec PyProof.Rows
/-! ### ranges with a step -/
def rgN (i j c : Int) : Nat := if i < j then ((j - i - 1) / c + 1).toNat else 0
def rgcI (i j c : Int) : List Int := (List.range (rgN i j c)).map fun (k : Nat) => i + (k : Int) * c
abbrev StepOk (i j c : Int) : Prop := (0 ≤ i ∧ i ≤ 1000000) ∧ (0 ≤ j ∧ j ≤ 1000000) ∧ 1 ≤ c ∧ c ≤ 1000000
section
variable {K : PySem.W.Frag} {ρ0 : Pl} {H0 : Hp}
end
section
variable {X : Cx} {W : WX} {tg a b c e : Expr} {m : ME} {ms : MA} {p p2 pos pos2 : Pos}
/-! ### list(range(n)), list(range(i, j, c)) -/
def mLstRg1 (a : ME) : ME := fun τ S => (a τ S).bind fun x S1 => match x with
  | .int j => guardR (-(2 ^ 62) ≤ j ∧ j < 2 ^ 62 ∧ j.toNat ≤ 2 ^ 24) (.ok (.lst ((rgI 0 j).map D.int)) S1)
  | _ => .bad
def mLstRg3 (ms : MA) : ME := fun τ S => (ms τ S).bind fun ds S1 => match ds with
  | [.int i, .int j, .int c] => guardR (StepOk i j c) (.ok (.lst ((rgcI i j c).map D.int)) S1)
  | _ => .bad
end
/-! ### dict(xs), xs a list of pairs: a dict that may be changed -/
section
variable {K : PySem.W.Frag}
end
/-! ### dicts that are alike -/
open Classical in
theorem KR.at {P : V → D → Prop} : ∀ {ws : List (Key × V)} {kvs : List (Key × D)}, KR P ws kvs → ∀ p ∈ ws, ∃ d, (p.1, d) ∈ kvs ∧ P p.2 d
  | _, _, .nil, p, hp => by cases hp
  | _, _, .cons (v := v) (d := d) r rs, p, hp => by
    rcases List.mem_cons.mp hp with rfl | hp
    · exact ⟨_, by simp, r⟩
    · obtain ⟨d, h1, h2⟩ := KR.at rs p hp
      exact ⟨d, by simp [h1], h2⟩
end Z

/-! Z45: is, is not of truths. -/
namespace Z
open PySem L2
def dIsB (neg : Bool) : D → D → Sto → R D := fun x y S => match x, y with
  | .bl a, .bl b => .ok (.bl (if neg then !decide (a = b) else decide (a = b))) S
  | _, _ => .bad
@[simp] theorem x_isB (a b : Bool) (S : Sto) : dIsB false (.bl a) (.bl b) S = .ok (.bl (decide (a = b))) S := rfl
@[simp] theorem x_isnB (a b : Bool) (S : Sto) : dIsB true (.bl a) (.bl b) S = .ok (.bl (!decide (a = b))) S := rfl
end Z

/-! Z46: sorted(xs), xs a list or a tuple of rows, the same row twice or not. -/
namespace Z
open PySem L2 PySem.Spec PyProof.Rows
/-- xs[::-1], xs a list -/
def mRevL (m : ME) : ME := fun τ S => (m τ S).bind fun d S1 => match listR d S1 with
  | some ds => .ok (.lst ds.reverse) S1
  | none => .bad
@[simp] theorem x_revL (m : ME) {τ : Tau} {S : Sto} : mRevL m τ S = (m τ S).bind fun d S1 => match listR d S1 with
  | some ds => .ok (.lst ds.reverse) S1
  | none => .bad := rfl
end Z

/-! Z47: a list made by a comprehension that may be changed. -/
namespace Z
open PySem L2 PySem.Spec
section
variable {K : PySem.W.Frag} {ρ ρ' : Pl} {H H' : Hp} {S : Sto}
theorem Pl.show_out {p a : Addr} (hp : p ∈ ρ.hid) (h : a ∉ ρ) : a ∉ ρ.show p := fun z => by
  rcases z with z | z
  · rcases List.mem_append.mp (show a ∈ ρ.loc ++ [p] from z) with z | z
    · exact h (.inl z)
    · have : a = p := by simpa using z
      subst this; exact h (.inr hp)
  · exact h (.inr (List.mem_filter.mp z).1)
mutual
theorem VR.show {p : Addr} (hp : p ∈ ρ.hid) : ∀ {v : V} {d : D}, VR K ρ H v d → VR K (ρ.show p) H v d
  | _, _, .non => .non
  | _, _, .bl b => .bl b
  | _, _, .int i => .int i
  | _, _, .str x => .str x
  | _, _, .tup h h2 hs => .tup h (Pl.show_out hp h2) (VRs.show hp hs)
  | _, _, .ktup h hs => .ktup h (VRs.show hp hs)
  | _, _, .lst h h2 hs => .lst h (Pl.show_out hp h2) (VRs.show hp hs)
  | _, _, .dct h h2 hk hs => .dct h (Pl.show_out hp h2) hk (VRs.show hp hs)
  | _, _, .scr h hs => .scr (h.imp (fun ⟨o, h1, h2⟩ => ⟨o, h1, Pl.show_out hp h2⟩) id) (VRs.show hp hs)
  | _, _, .loc (l := l) h => .loc (by
    show (ρ.loc ++ [p])[l]? = _
    rw [List.getElem?_append_left (List.getElem?_eq_some_iff.mp h).1]; exact h)
  | _, _, .ob v => .ob v
  | _, _, .fn h => .fn h
theorem VRs.show {p : Addr} (hp : p ∈ ρ.hid) : ∀ {vs : List V} {ds : List D}, VRs K ρ H vs ds → VRs K (ρ.show p) H vs ds
  | _, _, .nil => .nil
  | _, _, .cons h hs => .cons (VR.show hp h) (VRs.show hp hs)
end
end
section
variable {X : Cx} {W : WX} {iter tg elt : Expr} {ifs : List Expr} {scope : Scope} {own : List (Str × Nat)} {mi : MI} {g : Tgt} {t : MT} {me : ME} {pos : Pos}
end
end Z

/-! Z48: repr of a dict that may be changed; of a list or a tuple that holds cells. -/
namespace Z
open PySem L2 PySem.Spec
section
variable {X : Cx} {ρ : Pl} {H : Hp} {S : Sto}
/-! ### things that hold cells -/
end
end Z

/-! Z49: defs as things; a local name that holds a def is called; lambdas where tables stand anywhere in the store; repr of a tuple that holds cells. -/
namespace Z
open PySem L2 PySem.Spec
open L2H (RoomH PinOk cxH inv_startH roomH_of)
section
variable {X : Cx} {W : WX} {x : Str} {p pos : Pos} {e : Expr} {es : List Expr} {mas : MA}
end
section
variable {P : Program} {w : World} {K : PySem.W.Frag} {mg : Str → Option Value} {base : Heap} {kk : Nat}
end
/-! ### lambdas -/
section
variable {K : PySem.W.Frag} {ρ : Pl} {S : Sto} {H : Hp}
theorem tabs_one (s : SR K ρ S H) {P : Addr} {q : Str} (h : (P, q) ∈ tabsOf S) : ∀ p ∈ tabsOf S, p.1 = P → p.2 = q := fun p hp e => by
  obtain ⟨l, hl⟩ := mem_tabs.mp h
  obtain ⟨l2, hl2⟩ := mem_tabs.mp hp
  obtain ⟨a, a1, a2⟩ := s.cell l _ hl
  obtain ⟨b, b1, b2⟩ := s.cell l2 _ hl2
  obtain ⟨ea, _⟩ := a2
  obtain ⟨eb, _⟩ := b2
  simp only at ea eb
  subst ea
  subst eb
  rw [e] at b1
  obtain ⟨x1, y1⟩ := List.getElem?_eq_some_iff.mp a1
  obtain ⟨x2, y2⟩ := List.getElem?_eq_some_iff.mp b1
  have := (List.getElem_inj s.nd).mp (y1.trans y2.symm)
  subst this
  rw [hl] at hl2
  cases hl2
  rfl
end
/-- as mWord, the table being the i-th of those told, wherever it stands -/
noncomputable def mWordM (Ts : List (Addr × Str)) (i : Nat) (told : Str) (kf : Str → Option D) (m : ME) : ME := fun τ S => match Ts[i]? with
  | some p => if p ∈ tabsOf S then (match m τ S with
    | .ok d S1 => .ok (.tup [.str told, d]) S1
    | .ex c [] S1 => (match kf c with
      | some dd => .ok dd S1
      | none => .bad)
    | _ => .bad) else .bad
  | none => .bad
section
variable {X : Cx} {W : WX}
end
/-! ### repr of a tuple that holds cells -/
section
variable {X : Cx} {ρ : Pl} {H : Hp} {S : Sto}
end
end Z

/-! Z50: x in d.values(), d a dict with tuples for keys. -/
namespace Z
open PySem L2 PySem.Spec
open Sem (wp)
section
variable {prog : Program} {w : World} {A : Around} {R : Result → Shared → Prop} {I : Addr} {fp wr : List Addr} {G : Array GenState → Array GenState → Prop} {n : Nat} {P : Nat → Value → Prop} {St : Nat → Shared → Prop}
variable {E : Value → Shared → Prop} {s : Shared}
end
/-! ### in the layer -/
section
variable {X : Cx} {e : Expr} {td : TE} {apos cpos : Pos}
end
theorem KR.nth {κ : Type} {P : V → D → Prop} : ∀ {vs : List (κ × V)} {ds : List (κ × D)} {i : Nat} {k : κ} {z : V}, KR P vs ds → vs[i]? = some (k, z) → ∃ d, ds[i]? = some (k, d) ∧ P z d
  | _, _, _, _, _, .nil, e => by simp at e
  | _, _, 0, _, _, .cons h _, e => by simp at e; obtain ⟨rfl, rfl⟩ := e; exact ⟨_, rfl, h⟩
  | _, _, i + 1, _, _, .cons _ hs, e => by
    obtain ⟨d, h1, h2⟩ := KR.nth (i := i) hs (by simpa using e)
    exact ⟨d, by simpa using h1, h2⟩
section
variable {X : Cx} {W : WX} {a e : Expr} {ma mb : ME} {apos cpos pos : Pos}
end
end Z

/-! Z51: sorted(d) of a dict with texts for keys; text.upper(). -/
namespace Z
open PySem L2 PySem.Spec PyProof.Rows
def leS (a b : Str) : Bool := !ltCps b.cps.toList a.cps.toList
theorem leS_iff {a b : Str} : leS a b = true ↔ ¬ b.cps.toList < a.cps.toList := by simp [leS, ltCps_eq]
theorem leS_trans {a b c : Str} (h1 : leS a b = true) (h2 : leS b c = true) : leS a c = true := by
  rw [leS_iff] at *
  exact fun h => by
    have h3 : a.cps.toList ≤ b.cps.toList := h1
    have h4 : b.cps.toList ≤ c.cps.toList := h2
    exact List.le_trans h3 h4 h
theorem leS_total (a b : Str) : (leS a b || leS b a) = true := by
  by_cases h : leS a b = true
  · simp [h]
  · have h' : ¬ ¬ b.cps.toList < a.cps.toList := fun g => h (leS_iff.mpr g)
    have h2 : b.cps.toList < a.cps.toList := Classical.not_not.mp h'
    have : leS b a = true := leS_iff.mpr fun g => List.lt_irrefl _ (List.lt_trans g h2)
    simp [this]
theorem leS_anti {a b : Str} (h1 : leS a b = true) (h2 : leS b a = true) : a = b := by
  rw [leS_iff] at *
  have e : a.cps.toList = b.cps.toList := List.le_antisymm h1 h2
  obtain ⟨a⟩ := a
  obtain ⟨b⟩ := b
  simp only at e
  exact congrArg Str.mk (Array.toList_inj.mp e)
def sortS (ks : List Str) : List Str := ks.mergeSort leS
theorem rising_up : ∀ (p : Str) (l : List Str), risingS p l = true → (p :: l).Pairwise fun a b => leS a b = true
  | p, [], _ => by simp
  | p, x :: r, h => by
    simp only [risingS, Bool.and_eq_true] at h
    have ih := rising_up x r h.2
    refine List.pairwise_cons.mpr ⟨fun y hy => ?_, ih⟩
    rcases List.mem_cons.mp hy with rfl | hy
    · exact h.1
    · exact leS_trans h.1 ((List.pairwise_cons.mp ih).1 y hy)
theorem sortS_one {ks ms : List Str} (p : ms.Perm ks) (u : sortedS ms = true) : ms = sortS ks := by
  have hu : ms.Pairwise fun a b => leS a b = true := by
    cases ms with
    | nil => exact .nil
    | cons x r => exact rising_up x r u
  exact List.Perm.eq_of_pairwise (le := fun a b => leS a b = true) (fun a b _ _ h1 h2 => leS_anti h1 h2) hu (List.pairwise_mergeSort (le := leS) (fun a b c => leS_trans) leS_total ks) (p.trans (List.mergeSort_perm ks leS).symm)
def strKeys : List (Key × D) → Option (List Str)
  | [] => some []
  | (.inr x, _) :: r => (strKeys r).map (x :: ·)
  | (.inl _, _) :: _ => none
theorem strKeys_map : ∀ {kvs : List (Key × D)} {ks : List Str}, strKeys kvs = some ks → kvs.map (·.1) = ks.map Sum.inr
  | [], ks, h => by simp [strKeys] at h; subst h; rfl
  | (.inr x, d) :: r, ks, h => by
    simp only [strKeys, Option.map_eq_some_iff] at h
    obtain ⟨l, e, rfl⟩ := h
    simp [strKeys_map e]
  | (.inl _, _) :: _, ks, h => by simp [strKeys] at h
def dSortK : List D → Sto → R D
  | [.loc l], S => (match S[l]? with
    | some (.dK false kvs) => (match strKeys kvs with
      | some ks => guardR (ks.length < 64) (.ok (.lst ((sortS ks).map D.str)) S)
      | none => .bad)
    | _ => .bad)
  | _, _ => .bad
def rSortK : List V → Hp → VK → Prop := fun xs H Q => ∃ (a : Addr) (kvs : List (Key × V)) (ks : List Str), xs = [.ref a] ∧ Rd H a (.dK kvs) ∧ kvs.map (·.1) = ks.map Sum.inr ∧ ks.length < 64 ∧
    ∀ ys p, ys.Perm ks → sortedS ys = true → H p = none → Q (.ref p) (upd H p (.lst (ys.map V.str)))
theorem kr_keys {κ : Type} {P : V → D → Prop} : ∀ {ws : List (κ × V)} {kvs : List (κ × D)}, KR P ws kvs → ws.map (·.1) = kvs.map (·.1)
  | _, _, .nil => rfl
  | _, _, .cons _ h => by simp [kr_keys h]
theorem strs_vrs2 {K : PySem.W.Frag} {ρ : Pl} {H : Hp} : ∀ ks : List Str, VRs K ρ H (ks.map V.str) (ks.map D.str)
  | [] => .nil
  | x :: r => .cons (.str _) (strs_vrs2 r)
theorem dSortK_ok {K : PySem.W.Frag} : CallS K dSortK rSortK := fun Wk ρ S H vs ds Q s r h => by
  unfold dSortK at h
  split at h
  · rename_i l
    obtain ⟨v, rfl, rv⟩ := vrs1 r
    split at h
    · rename_i kvs e
      split at h
      · rename_i ks e2
        obtain ⟨h64, p⟩ := guardR_post h
        cases rv with
        | @loc a _ hl =>
          have c := s.at hl e
          obtain ⟨ws, h1, h2⟩ := c
          refine ⟨a, ws, ks, rfl, .inl h1, (kr_keys h2).trans (strKeys_map e2), h64, fun ys q pm up hq => ?_⟩
          rw [sortS_one pm up]
          exact p.newLst s (strs_vrs2 _) q hq
      · exact h.elim
    · exact h.elim
  · exact h.elim
def dUpper : D → List D → Sto → R D
  | .str x, [], S => guardR (x.length ≤ 5592405) (.ok (.str (Txt.upper x)) S)
  | _, _, _ => .bad
section
variable {S : Sto}
@[simp] theorem x_upper (x : Str) : dUpper (.str x) [] S = guardR (x.length ≤ 5592405) (.ok (.str (Txt.upper x)) S) := rfl
end
end Z

/-! Z52: str(x), int(text), text.split(sep), sep.join(texts). -/
namespace Z
open PySem L2 PySem.Spec PyProof.Rows
def strsOf : List D → Option (List Str)
  | [] => some []
  | .str x :: r => (strsOf r).map (x :: ·)
  | _ :: _ => none
theorem strsOf_of {K : PySem.W.Frag} {ρ : Pl} {H : Hp} : ∀ {ds : List D} {vs : List V} {ys : List Str}, VRs K ρ H vs ds → strsOf ds = some ys → vs = ys.map V.str
  | [], vs, ys, r, h => by
    cases r
    simp only [strsOf, Option.some.injEq] at h
    subst h; rfl
  | d :: ds, vs, ys, r, h => by
    cases d <;> simp only [strsOf, Option.map_eq_some_iff, reduceCtorEq] at h
    obtain ⟨zs, e, rfl⟩ := h
    cases r with
    | cons r1 rs =>
      cases r1
      rw [List.map_cons, ← strsOf_of rs e]
theorem strsOf_map : ∀ ys : List Str, strsOf (ys.map D.str) = some ys
  | [] => rfl
  | y :: ys => by simp [strsOf, strsOf_map ys]
/-! ### str(x) -/
def dStr : List D → Sto → R D
  | [.int i], S => guardR (i.natAbs.log2 < 1920) (.ok (.str (Str.ofString (toString i))) S)
  | [.str x], S => .ok (.str x) S
  | _, _ => .bad
theorem call_strA {X : Cx} : CallR X (.type "str") (fun xs H Q => (∃ i, xs = [.int i] ∧ i.natAbs.log2 < 1920 ∧ Q (.str (Str.ofString (toString i))) H) ∨ ∃ a, xs = [.str a] ∧ Q (.str a) H) := call_str_int.or SkE.call_str_str
theorem dStr_ok {K : PySem.W.Frag} : CallS K dStr (fun xs H Q => (∃ i, xs = [.int i] ∧ i.natAbs.log2 < 1920 ∧ Q (.str (Str.ofString (toString i))) H) ∨ ∃ a, xs = [.str a] ∧ Q (.str a) H) := fun Wk ρ S H vs ds Q s r h => by
  unfold dStr at h
  split at h
  · obtain ⟨hl, p⟩ := guardR_post h
    obtain ⟨v, rfl, r1⟩ := vrs1 r
    cases r1
    exact .inl ⟨_, rfl, hl, p.here s (.str _)⟩
  · obtain ⟨v, rfl, r1⟩ := vrs1 r
    cases r1
    exact .inr ⟨_, rfl, h.here s (.str _)⟩
  · exact h.elim
/-! ### int(text) -/
def dIntT : List D → Sto → R D
  | [.str a], S => (match PySem.intText? a with
    | some n => guardR (a.length ≤ 640) (.ok (.int n) S)
    | none => .bad)
  | _, _ => .bad
theorem dIntT_ok {K : PySem.W.Frag} : CallS K dIntT (fun xs H Q => ∃ a n, xs = [.str a] ∧ PySem.intText? a = some n ∧ a.length ≤ 640 ∧ Q (.int n) H) := fun Wk ρ S H vs ds Q s r h => by
  unfold dIntT at h
  split at h
  · obtain ⟨v, rfl, r1⟩ := vrs1 r
    cases r1
    split at h
    · rename_i n e
      obtain ⟨hl, p⟩ := guardR_post h
      exact ⟨_, n, rfl, e, hl, p.here s (.int _)⟩
    · exact h.elim
  · exact h.elim
/-! ### text.split(sep) -/
def dSplit : D → List D → Sto → R D
  | .str a, [.str b], S => guardR ((b.length == 0) = false ∧ a.length + 2 ≤ sizeLine) (.ok (.lst ((Txt.split a b).map D.str)) S)
  | _, _, _ => .bad
theorem dSplit_ok {K : PySem.W.Frag} : MethS K dSplit (fun x xs H Q => ∃ a b, x = .str a ∧ xs = [.str b] ∧ (b.length == 0) = false ∧ a.length + 2 ≤ sizeLine ∧ rNewStrs (Txt.split a b) H Q) := fun Wk ρ S H v d vs ds Q s r rs h => by
  unfold dSplit at h
  split at h
  · obtain ⟨⟨h1, h2⟩, p⟩ := guardR_post h
    cases r with
    | str _ =>
      obtain ⟨w, rfl, r1⟩ := vrs1 rs
      cases r1
      exact ⟨_, _, rfl, rfl, h1, h2, p.newLst s (strs_vrs2 _)⟩
  · exact h.elim
/-! ### sep.join(texts) -/
def dJoin : D → List D → Sto → R D
  | .str a, [d], S => (match seqR d S with
    | some ds => (match strsOf ds with
      | some ys => guardR ((ys.map (·.length)).sum + ys.length * a.length ≤ 16777216) (.ok (.str (Str.join a ys)) S)
      | none => .bad)
    | none => .bad)
  | _, _, _ => .bad
theorem dJoin_ok {K : PySem.W.Frag} : MethS K dJoin (fun x xs H Q => ∃ a p, ∃ ys : List Str, x = .str a ∧ xs = [.ref p] ∧ (SqL K H p (ys.map V.str) ∨ SqT K H p (ys.map V.str)) ∧ (ys.map (·.length)).sum + ys.length * a.length ≤ 16777216 ∧ Q (.str (Txt.join a ys)) H) := fun Wk ρ S H v d vs ds Q s r rs h => by
  unfold dJoin at h
  split at h
  · obtain ⟨w, rfl, r1⟩ := vrs1 rs
    split at h
    · rename_i es e
      obtain ⟨p, xs, rfl, h1, h2⟩ := seqR_of s r1 e
      split at h
      · rename_i ys e2
        obtain ⟨hl, q⟩ := guardR_post h
        cases r with
        | str _ =>
          have := strsOf_of h2 e2
          subst this
          refine ⟨_, p, ys, rfl, rfl, h1, hl, ?_⟩
          rw [TL.join_eq]
          exact q.here s (.str _)
      · exact h.elim
    · exact h.elim
  · exact h.elim
section
variable {X : Cx} {W : WX} {o e : Expr} {m : ME} {ms : MA} {apos cpos : Pos}
theorem z_split {e : Expr} (ho : PE X o (Em X.K W m)) (ha : PA X [e] (Am X.K W ms))
    (hbase : attributeBase o "split" X.env (eval o X.env) = eval o X.env := by rfl)
    (hfew : ((backTo cpos (starEach [e] X.env)).all (fun x => !x.1) && (backToKw cpos (keywordEach [] X.env)).all (fun x => x.1.isSome) && decide (([e] : List Expr).length + ([] : List Keyword).length + (if ([] : List Keyword).isEmpty then 0 else 1) < 30)) = true := by rfl)
    (hline : (apos.endLine == cpos.line) = true := by rfl) (hst : starEach [e] X.env = (false, eval e X.env) :: starEach [] X.env := by rfl) (hplain : (backTo cpos (starEach [] X.env)).any (·.1) = false := by rfl) :
    PE X (.Call (.Attribute o "split" apos) [e] [] cpos) (Em X.K W (mMeth "str" dSplit m ms)) := z_m1 PySem.F.plainAttrs_str PySem.F.slot_str_split PySem.F.type_str_split mt_split dSplit_ok ho ha hbase hfew hline hst hplain
theorem z_join {e : Expr} (ho : PE X o (Em X.K W m)) (ha : PA X [e] (Am X.K W ms))
    (hbase : attributeBase o "join" X.env (eval o X.env) = eval o X.env := by rfl)
    (hfew : ((backTo cpos (starEach [e] X.env)).all (fun x => !x.1) && (backToKw cpos (keywordEach [] X.env)).all (fun x => x.1.isSome) && decide (([e] : List Expr).length + ([] : List Keyword).length + (if ([] : List Keyword).isEmpty then 0 else 1) < 30)) = true := by rfl)
    (hline : (apos.endLine == cpos.line) = true := by rfl) (hst : starEach [e] X.env = (false, eval e X.env) :: starEach [] X.env := by rfl) (hplain : (backTo cpos (starEach [] X.env)).any (·.1) = false := by rfl) :
    PE X (.Call (.Attribute o "join" apos) [e] [] cpos) (Em X.K W (mMeth "str" dJoin m ms)) := z_m1 PySem.F.plainAttrs_str PySem.F.slot_str_join PySem.F.type_str_join mt_join dJoin_ok ho ha hbase hfew hline hst hplain
end
section
variable {S : Sto}
@[simp] theorem x_strI (i : Int) : dStr [.int i] S = guardR (i.natAbs.log2 < 1920) (.ok (.str (Str.ofString (toString i))) S) := rfl
@[simp] theorem x_strS (x : Str) : dStr [.str x] S = .ok (.str x) S := rfl
@[simp] theorem x_split (a b : Str) : dSplit (.str a) [.str b] S = guardR ((b.length == 0) = false ∧ a.length + 2 ≤ sizeLine) (.ok (.lst ((Txt.split a b).map D.str)) S) := rfl
theorem x_join (a : Str) (ys : List Str) : dJoin (.str a) [.lst (ys.map D.str)] S = guardR ((ys.map (·.length)).sum + ys.length * a.length ≤ 16777216) (.ok (.str (Str.join a ys)) S) := by
  simp [dJoin, seqR, listR, strsOf_map]
theorem x_intT {a : Str} {n : Int} (h : PySem.intText? a = some n) : dIntT [.str a] S = guardR (a.length ≤ 640) (.ok (.int n) S) := by simp [dIntT, h]
end
end Z

/-! Z53: a dict told from a tuple. -/
namespace Z
open PySem L2 PySem.Spec PyProof.Rows
open PySem.SeqAt PySem.AutoSeq1 PySem.MeetsSeq PySem.MeetsSeq2 PySem.MeetsSeq3
section
variable {X : Cx}
end
end Z

/-! Z54: errors with fields: what is tracked of their dict is let go, and taken up again. -/
namespace Z
open PySem L2 PySem.Spec PyProof.Rows
def offH (H : Hp) (a : Addr) : Hp := fun b => if b = a then none else H b
theorem offH_same {H : Hp} {a : Addr} : offH H a a = none := if_pos rfl
theorem offH_ne {H : Hp} {a b : Addr} (h : b ≠ a) : offH H a b = H b := if_neg h
theorem offH_some {H : Hp} {a b : Addr} {o : HO} (h : offH H a b = some o) : b ≠ a ∧ H b = some o := by
  unfold offH at h
  split at h
  · cases h
  · exact ⟨by assumption, h⟩
section
variable {K : PySem.W.Frag} {ρ : Pl} {H : Hp} {S : Sto} {da : Addr} {ws : List (Str × V)}
theorem ne_xd {a : Addr} {o : HO} (hx : H da = some (.xd ws)) (h : H a = some o) (n : ∀ ws, o ≠ .xd ws := by (intro ws z; cases z)) : a ≠ da := fun z => by
  rw [z, hx] at h
  exact n ws (Option.some.inj h).symm
theorem off_at {a : Addr} {o : HO} (hx : H da = some (.xd ws)) (h : H a = some o) (n : ∀ ws, o ≠ .xd ws := by (intro ws z; cases z)) : offH H da a = some o := by
  rw [offH_ne (ne_xd hx h n)]; exact h
mutual
theorem VR.off (hx : H da = some (.xd ws)) : ∀ {v : V} {d : D}, VR K ρ H v d → VR K ρ (offH H da) v d
  | _, _, .non => .non
  | _, _, .bl b => .bl b
  | _, _, .int i => .int i
  | _, _, .str x => .str x
  | _, _, .tup h n r => .tup (off_at hx h) n (VRs.off hx r)
  | _, _, .ktup h r => .ktup h (VRs.off hx r)
  | _, _, .lst h n r => .lst (off_at hx h) n (VRs.off hx r)
  | _, _, .scr h r => .scr (h.imp (fun ⟨o, h, n⟩ => ⟨o, off_at hx h, n⟩) id) (VRs.off hx r)
  | _, _, .dct h n e r => .dct (off_at hx h) n e (VRs.off hx r)
  | _, _, .loc h => .loc h
  | _, _, .ob v => .ob v
  | _, _, .fn h => .fn h
theorem VRs.off (hx : H da = some (.xd ws)) : ∀ {vs : List V} {ds : List D}, VRs K ρ H vs ds → VRs K ρ (offH H da) vs ds
  | _, _, .nil => .nil
  | _, _, .cons h r => .cons (VR.off hx h) (VRs.off hx r)
end
theorem KR.off {κ : Type} (hx : H da = some (.xd ws)) : ∀ {vs : List (κ × V)} {ds : List (κ × D)}, KR (VR K ρ H) vs ds → KR (VR K ρ (offH H da)) vs ds
  | _, _, .nil => .nil
  | _, _, .cons h r => .cons (h.off hx) (KR.off hx r)
theorem CR.off (hx : H da = some (.xd ws)) {a : Addr} {c : C} (h : CR K ρ H a c) : CR K ρ (offH H da) a c := by
  cases c with
  | lst ds => obtain ⟨xs, h, g⟩ := h; exact ⟨xs, off_at hx h, g.off hx⟩
  | dK lk kvs =>
    cases lk
    · obtain ⟨xs, h, g⟩ := h; exact ⟨xs, off_at hx h, g.off hx⟩
    · obtain ⟨o, xs, h, g⟩ := h; exact ⟨o, xs, off_at hx h, g.off hx⟩
  | dT lk kvs =>
    cases lk
    · obtain ⟨xs, h, g⟩ := h; exact ⟨xs, off_at hx h, g.off hx⟩
    · obtain ⟨o, xs, h, g⟩ := h; exact ⟨o, xs, off_at hx h, g.off hx⟩
  | ins cc fs => obtain ⟨C, dx, xs, e, h, g⟩ := h; exact ⟨C, dx, xs, e, off_at hx h, g.off hx⟩
  | tab P q =>
    obtain ⟨rfl, ps, h, t1, t2⟩ := h
    refine ⟨rfl, ps, off_at hx h, t1, fun pos cv z => ?_⟩
    obtain ⟨c, c1, c2, c3⟩ := t2 pos cv z
    exact ⟨c, c1, off_at hx c2 (by intro ws z; unfold LamX.CodeO at z; cases z), c3⟩
theorem SR.off (hx : H da = some (.xd ws)) (hd : da ∉ ρ) (s : SR K ρ S H) : SR K ρ S (offH H da) where
  len := s.len
  nd := s.nd
  hd := fun a ha => by
    obtain ⟨h1, o, h2, h3⟩ := s.hd a ha
    have : a ≠ da := fun z => hd (.inr (z ▸ ha))
    exact ⟨h1, o, by rw [offH_ne this]; exact h2, h3⟩
  cell := fun l c e => by
    obtain ⟨a, h1, h2⟩ := s.cell l c e
    exact ⟨a, h1, h2.off hx⟩
theorem ER.off {τ : Tau} {σ : L2.St} (hx : H da = some (.xd ws)) (r : ER K ρ H τ σ) : ER K ρ (offH H da) τ σ :=
  ⟨r.1, fun i d e => by
    obtain ⟨v, h1, h2⟩ := r.2 i d e
    exact ⟨v, h1, h2.off hx⟩⟩
end
theorem ext_back {ρ ρ' : Pl} {H H' : Hp} {da : Addr} {ws : List (Str × V)} (e : Ext ρ (offH H da) ρ' H') (hn : H' da = none) (hx : H da = some (.xd ws)) (hl : da ∉ ρ'.loc) (hh : da ∉ ρ'.hid) : Ext ρ H ρ' (upd H' da (.xd ws)) where
  pre := e.pre
  hid := e.hid
  newL := fun p hp => (e.newL p hp).imp id fun f => fun o ho => by
    by_cases hb : p = da
    · subst hb; exact absurd hp hl
    · exact f o (by rw [offH_ne hb]; exact ho)
  newH := fun p hp => (e.newH p hp).imp id fun f => fun o ho => by
    by_cases hb : p = da
    · subst hb; exact absurd hp hh
    · exact f o (by rw [offH_ne hb]; exact ho)
  keep := fun b o ho n hb => by
    by_cases hd : b = da
    · subst hd
      rw [hx] at ho
      rw [upd_same]; exact ho
    · rw [upd_ne hd]
      exact e.keep b o (by rw [offH_ne hd]; exact ho) n hb
  live := fun b f => by
    by_cases hd : b = da
    · subst hd
      obtain ⟨ps, z⟩ := f _ upd_same
      cases z
    · have := e.live b fun o ho => f o (by rw [upd_ne hd]; exact ho)
      exact fun o ho => this o (by rw [offH_ne hd]; exact ho)
  frz := fun b o u ho => by
    have hd : b ≠ da := ne_xd hx ho
    rw [upd_ne hd]
    exact e.frz b o u (by rw [offH_ne hd]; exact ho)
section
variable {X : Cx} {pins pn : List (Addr × Obj)} {σ : L2.St} {H H' : Hp} {s s' : Shared} {da : Addr} {ws : List (Str × V)}
/-- the fields that the dict od bears -/
def Bears (od : Obj) (ws : List (Str × V)) : Prop := ∀ (f : Str) (v : V), ws.lookup f = some v → ∃ u, PySem.W.lookIn f od = some (some u) ∧ RelV v u
abbrev withPn (X : Cx) (pn : List (Addr × Obj)) : Cx := { X with pn := pn }
theorem notIn_fs (I : Inv X pins σ H s) {o : HO} (hx : H da = some o) : da ∉ X.fs := fun hm => by
  obtain ⟨_, ob, h1, _⟩ := I.ok.funs.mem hm
  have hex : da ∉ X.ex := fun z => I.ok.exfs da z hm
  have := I.base.free da ob h1 (I.ok.frf da hm) hex
  rw [hx] at this; cases this
theorem pin_xd (I : Inv (withPn X pn) pins σ H s) (hx : H da = some (.xd ws)) : ∃ od, s.heap.get? da = some od ∧ Bears od ws ∧ Inv (withPn X (pn ++ [(da, od)])) pins σ (offH H da) s := by
  obtain ⟨mA, hns, hr⟩ := (show ObjOk X.prog X.w H s.heap da (.xd ws) from I.hok da _ hx)
  obtain ⟨od, ho, hl⟩ := lookIn_ns hns
  have hdat : ∀ v, od.data ≠ .cell v := by
    obtain ⟨o2, es, ep, e1, e2, _⟩ := hns
    rw [ho] at e1
    cases e1
    intro v z
    rw [e2] at z; cases z
  have hloc : da ≠ X.env.locals := fun z => by
    have := I.free
    rw [show (withPn X pn).env.locals = X.env.locals from rfl, ← z, hx] at this; cases this
  refine ⟨od, ho, fun f v e => ?_, ⟨⟨I.ok.mod, I.ok.kind, I.ok.glob, I.ok.blt, I.ok.above, I.ok.inj, I.ok.has, I.ok.cab, I.ok.hd, I.ok.frames, I.ok.stk, I.ok.exf, I.ok.bs, I.ok.bsz, I.ok.noex, I.ok.exfs, I.ok.funs, I.ok.frf⟩, I.os, I.bare, ?_, I.loc, I.cell, ?_, fun x c e => ?_, fun p hp => ?_, fun b o e => ?_, I.len⟩⟩
  · have h1 := hr f
    rw [e] at h1
    obtain ⟨u, hu, ru⟩ := RelO.some_of (v := v) (o := mA f) h1
    exact ⟨u, by rw [hl, hu], ru⟩
  · refine ⟨I.base.keep, I.base.slot, fun b o h1 h2 h3 => ?_, I.base.there, fun b xs h => off_at hx (I.base.tups b xs h), fun b o u h => off_at hx (I.base.frzs b o u h), fun b ps h => ?_⟩
    · have := I.base.free b o h1 h2 h3
      unfold offH
      split
      · rfl
      · exact this
    · obtain ⟨m, h⟩ := I.base.tbls b ps h
      exact ⟨m, off_at hx h⟩
  · have := I.free
    unfold offH
    split
    · rfl
    · exact this
  · have := I.freeC x c e
    unfold offH
    split
    · rfl
    · exact this
  · have hp' : p ∈ pn ++ [(da, od)] ++ pins := hp
    rcases List.mem_append.mp hp' with h | h
    · rcases List.mem_append.mp h with h | h
      · obtain ⟨a1, a2, a3⟩ := I.pin p (List.mem_append_left _ h)
        refine ⟨a1, ?_, a3⟩
        unfold offH
        split
        · rfl
        · exact a2
      · simp only [List.mem_singleton] at h
        subst h
        exact ⟨ho, offH_same, hloc, (show da ∉ X.fs from notIn_fs (X := withPn X pn) I hx), hdat⟩
    · obtain ⟨a1, a2, a3⟩ := I.pin p (List.mem_append_right _ h)
      refine ⟨a1, ?_, a3⟩
      unfold offH
      split
      · rfl
      · exact a2
  · obtain ⟨hb, e⟩ := offH_some e
    exact (I.hok b o e).stay (fun c v _ z => z) (fun c hc => off_at hx hc) (fun c xs hc => off_at hx hc)
theorem unpin_xd {od : Obj} (I0 : Inv (withPn X pn) pins σ H s) (hx : H da = some (.xd ws)) (h0 : s.heap.get? da = some od) {σ' : L2.St} (I : Inv (withPn X (pn ++ [(da, od)])) pins σ' H' s') : Inv (withPn X pn) pins σ' (upd H' da (.xd ws)) s' := by
  have P := I.pin (da, od) (by simp [withPn])
  obtain ⟨p1, p2, p3, p4, p5⟩ := P
  simp only at p1 p2 p3 p4 p5
  have nu : ∀ {b : Addr}, H' b = none → b ≠ da → upd H' da (.xd ws) b = none := fun n hb => by rw [upd_ne hb]; exact n
  have hns : ∃ mA, s'.heap.Ns1 da mA ∧ ∀ f, RelO (ws.lookup f) (mA f) := by
    obtain ⟨mA, hns, hr⟩ := (show ObjOk X.prog X.w H s.heap da (.xd ws) from I0.hok da _ hx)
    exact ⟨mA, hns.at (fun o e => by rw [h0] at e; cases e; exact p1), hr⟩
  refine ⟨⟨I.ok.mod, I.ok.kind, I.ok.glob, I.ok.blt, I.ok.above, I.ok.inj, I.ok.has, I.ok.cab, I.ok.hd, I.ok.frames, I.ok.stk, I.ok.exf, I.ok.bs, I.ok.bsz, I.ok.noex, I.ok.exfs, I.ok.funs, I.ok.frf⟩, I.os, I.bare, ?_, I.loc, I.cell, ?_, fun x c e => ?_, fun p hp => ?_, fun b o e => ?_, I.len⟩
  · have n0 : ∀ b o, X.s_0.heap.get? b = some o → X.H_0 b = none → b ∉ X.ex → b ≠ da := fun b o h1 h2 h3 z => by
      have := I0.base.free b o h1 h2 h3
      rw [z, hx] at this; cases this
    refine ⟨I.base.keep, I.base.slot, fun b o h1 h2 h3 => nu (I.base.free b o h1 h2 h3) (n0 b o h1 h2 h3), I.base.there, fun b xs h => ?_, fun b o u h => ?_, fun b ps h => ?_⟩
    · rw [upd_ne (ne_xd hx (I0.base.tups b xs h))]; exact I.base.tups b xs h
    · rw [upd_ne (ne_xd hx (I0.base.frzs b o u h))]; exact I.base.frzs b o u h
    · obtain ⟨m, h'⟩ := I0.base.tbls b ps h
      obtain ⟨m2, h2⟩ := I.base.tbls b ps h
      exact ⟨m2, by rw [upd_ne (ne_xd hx h')]; exact h2⟩
  · exact nu I.free (Ne.symm p3)
  · refine nu (I.freeC x c e) fun z => ?_
    have := I0.freeC x c e
    rw [z, hx] at this; cases this
  · have hp' : p ∈ pn ++ pins := hp
    have hq : p ∈ pn ++ [(da, od)] ++ pins := by
      rcases List.mem_append.mp hp' with h | h
      · exact List.mem_append_left _ (List.mem_append_left _ h)
      · exact List.mem_append_right _ h
    obtain ⟨a1, a2, a3⟩ := I.pin p hq
    refine ⟨a1, nu a2 fun z => ?_, a3⟩
    have := (I0.pin p hp').2.1
    rw [z, hx] at this; cases this
  · refine HOk.laidN (a := da) (o := .xd ws) I.hok (fun _ _ z => z) p2 (show ObjOk X.prog X.w (upd H' da (.xd ws)) s'.heap da (.xd ws) from hns) b o e
end
end Z

/-! Z55: a def called where an error with fields is handled; its fields read. -/
namespace Z
open PySem L2 PySem.Spec PyProof.Rows
open L2H (RoomH PinOk cxH inv_startH)
/-- the context of such a def's body -/
def cxP (CX : CXT) (P : Program) (w : World) (K : PySem.W.Frag) (mg : Str → Option Value) (base : Heap) (N : List Str) (qual : Str) (scope : Scope) (f : Addr) (cd : Value) (A : Around) (outer : List Env) (s : Shared) (H : Hp) (E : XK) (ps : List (Addr × Obj)) : Cx :=
  { cxOf CX P w K mg base N qual scope f cd A outer s H E with calm := false, pn := ps }
theorem inv_startP {CX : CXT} {P : Program} {w : World} {K : PySem.W.Frag} {mg : Str → Option Value} {base : Heap} {N ps : List Str} {qual : Str} {scope : Scope} {f : Addr} {cd : Value} {A : Around} {outer : List Env} {s s1 : Shared} {H : Hp} {E : XK} {us : List Value} {vs : List V}
    (S : FnScope N ps scope) {p : Addr × Obj} {pl : List (Addr × Obj)} (hp0 : PinOk outer H s p) (hpin : ∀ q ∈ pl, PinOk outer H s q) (e0 : Env0 P w K mg base A outer s H) (hl : vs.length = ps.length) (r : Vals vs us)
    (x : InCallC s s.heap.objs.size (bindL (envOfC qual scope s.heap.objs.size f cd).kindOf (ps.zip us) fun _ => none) (cellsFrom (s.heap.objs.size + 1) scope.names []) (bindC (envOfC qual scope s.heap.objs.size f cd).kindOf (ps.zip us) fun _ => none) s1) :
    Inv (cxP CX P w K mg base N qual scope f cd A outer s H E pl) [] (L2.start N vs) H s1 := by
  have I := inv_startH (CX := CX) (E := E) S hp0 e0 hl r x
  obtain ⟨h1, tk, rfl, hk⟩ := x.done
  refine ⟨⟨I.ok.mod, I.ok.kind, I.ok.glob, I.ok.blt, I.ok.above, I.ok.inj, I.ok.has, I.ok.cab, I.ok.hd, I.ok.frames, I.ok.stk, I.ok.exf, I.ok.bs, I.ok.bsz, I.ok.noex, I.ok.exfs, I.ok.funs, I.ok.frf⟩, I.os, I.bare, I.base, I.loc, I.cell, I.free, I.freeC, fun q hq => ?_, I.hok, I.len⟩
  have hq' : q ∈ pl := by simpa using (show q ∈ pl ++ ([] : List (Addr × Obj)) from hq)
  have hp := hpin q hq'
  exact ⟨hk q.1 q.2 hp.get, hp.free, Nat.ne_of_lt (Heap.lt_size hp.get), hp.nofs, hp.nocell⟩
/-- what the error's dict od bears -/
def BearsD (od : Obj) (fs : List (Str × D)) : Prop := ∀ (f : Str) (d : D) (v : V), fs.lookup f = some d → flatD d = some v → ∃ u, PySem.W.lookIn f od = some (some u) ∧ RelV v u
structure FnX (P : Program) (w : World) (K : PySem.W.Frag) (mg : Str → Option Value) (base : Heap) (k : Nat) (g : Addr) (fd : FuncData) (ps : List Str) (a C : Addr) (fs : List (Str × D)) (f : List D → Sto → R D) : Prop where
  len : ∀ (ds : List D) (S : Sto), f ds S ≠ .bad → ds.length = ps.length
  run : ∀ (A : Around) (frs : List Env) (st : Shared) (H : Hp) (ar : Args) (us : List Value) (vs : List V) (Q : VK) (E : XK) (oe od : Obj) (da : Addr), RoomH k A → PinOk frs H st (a, oe) → PinOk frs H st (da, od) → Zc (.ref C) (some da) oe → (∃ vs, oe.data = .fields vs) → BearsD od fs → Env0 P w K mg base A frs st H →
    BindsTo st fd ar (ps.zip us) → Vals vs us → Sf K f vs H Q E → codeAny (model P w) A (.call (.ref g) ar) (L2.CR (L2.CX P w) frs P w H st Q E) st
section
variable {P : Program} {w : World} {K : PySem.W.Frag} {mg : Str → Option Value} {base : Heap}
abbrev hotCxP (P : Program) (w : World) (K : PySem.W.Frag) (mg : Str → Option Value) (base : Heap) (N : List Str) (qual : Str) (st : Stmt) (g : Addr) (cdv : Value) (A : Around) (fs : List Env) (s : Shared) (H : Hp) (E : XK) (ps : List (Addr × Obj)) : Cx := cxP (L2.CX P w) P w K mg base N qual (defScope st) g cdv A fs s H E ps
theorem fnX_of {x qual : Str} {st : Stmt} {g a C : Addr} {fd : FuncData} {N ps : List Str} {k n : Nat} {b : MS} {fx : List (Str × D)} (F : Fun K x qual st g fd) (Sc : FnScope N ps (defScope st)) (hn : ps.length = n)
    (hb : ∀ (cdv : Value) (A : Around) (fs : List Env) (s : Shared) (H : Hp) (E : XK) (oe od : Obj) (da : Addr), RoomH k (hotCxP P w K mg base N qual st g cdv A fs s H E [(a, oe), (da, od)]).A → Zc (.ref C) (some da) oe → (∃ vs, oe.data = .fields vs) → BearsD od fx →
      PSs (hotCxP P w K mg base N qual st g cdv A fs s H E [(a, oe), (da, od)]) (defBody st) (Sm K (fun c d _ H' => E c d H') b)) :
    FnX P w K mg base (k + 1) g fd ps a C fx (runD n N.length b) := by
  refine ⟨fun ds S h => ?_, ?_⟩
  · unfold runD at h
    split at h
    · omega
    · exact absurd rfl h
  intro A fs s H ar us vs Q E oe od da hr hpin hpin2 hz hf hbd0 e0 hbd hv hsf
  obtain ⟨oc, od0, kV, doc, pm, an, cdv, ct, osl, rfl, lk, hcd⟩ := F.ex
  obtain ⟨ρ, S, ds, sr, dv, po⟩ := hsf
  unfold runD at po
  split at po
  case isFalse => exact po.elim
  rename_i hlen
  have hlv : vs.length = ps.length := by rw [dv.length, hn]; exact hlen
  have KX : K.In s.heap := e0.mod.kin.keeps fun b o e => (e0.bs b o e).1
  have lim : s.heap.NoLimit := e0.mod.nolimit.keeps fun b o e => (e0.bs b o e).1
  have hkind : ∀ y ∈ ps.zip us, (defScope st).names.lookup y.1 = some .local ∨ ((defScope st).names.lookup y.1 = some .cell ∧ ((cellsFrom (s.heap.objs.size + 1) (defScope st).names []).lookup y.1).isSome = true) := by
    rintro ⟨nm, u⟩ hy
    rcases Sc.par nm (List.of_mem_zip hy).1 with q | q
    · exact .inl q
    · exact .inr ⟨q, PySem.W.cellsFrom_some _ _ _ (.inl q)⟩
  refine codeAny_call_function hr.depth (KX _ _ lk) rfl Sc.co Sc.gen rfl (PySem.W.codeRec_of KX hcd) (hbd _ _ _ _ ?_)
  refine wpAny_newFunctionEnv_cells Sc.kind hkind ?_
  intro env he s1 ic
  subst he
  refine ⟨lim.keeps ic.toInCall.keep, codeAny_func ?_⟩
  have body := hb cdv A fs s H E oe od da (hr.deeper _) hz hf hbd0
  have I := inv_startP (CX := L2.CX P w) (E := E) (pl := [(a, oe), (da, od)]) Sc hpin (fun q hq => by
    simp only [List.mem_cons, List.not_mem_nil, or_false] at hq
    rcases hq with rfl | rfl
    · exact hpin
    · exact hpin2) e0 hlv hv ic
  refine wpAny_mono (body.run [] s1 (L2.start N vs) H { nx := fun _ H' => Q .non H', rt := Q } I ?_) ?_ fun _ _ z => z
  · refine ⟨ρ, _, S, sr, er_start dv, ?_⟩
    cases q : b (ds.map some ++ List.replicate (N.length - ds.length) none) S with
    | rt d S' => rw [q] at po; exact po
    | nx τ' S' => rw [q] at po; exact fun ρ' σ' H' e' s' _ => po ρ' H' .non e' s' .non
    | ex τ' c fs2 S' => rw [q] at po; exact fun ρ' σ' H' dd e' s' _ x' => po ρ' H' dd e' s' x'
    | bk τ' S' => rw [q] at po; exact po.elim
    | ct τ' S' => rw [q] at po; exact po.elim
    | bad => rw [q] at po; exact po.elim
  · intro fl s' hs
    have fin : ∀ {σ' : L2.St} {H' : Hp} {v : V} {u : Value}, Inv (hotCxP P w K mg base N qual st g cdv A fs s H E [(a, oe), (da, od)]) [] σ' H' s' → RelV v u → Q v H' → CE fs P w H s Q u s' :=
      fun {σ' H' v u} J rv q => ⟨v, H', J.os, J.bare, J.base, J.hok, rv, q⟩
    match fl, hs with
    | .ret u, ⟨v, σ', H', J, rv, q⟩ => exact fin J rv q
    | .next, ⟨σ', H', J, q⟩ => exact fin (v := .non) (u := .none) J rfl q
    | .brk, ⟨_, _, _, q⟩ => exact q.elim
    | .cont, ⟨_, _, _, q⟩ => exact q.elim
end
section
variable {X : Cx} {W : WX} {a C da : Addr} {oe od : Obj} {f : List D → Sto → R D} {fx : List (Str × D)} {e : Expr} {es : List Expr} {mas : MA} {x : Str} {p pos : Pos}
theorem z_callX {k : Nat} {g : Addr} {fd : FuncData} {ps : List Str} (F : FnX X.prog X.w X.K X.mg X.base k g fd ps a C fx f) (hz : Zc (.ref C) (some da) oe) (hf : ∃ vs, oe.data = .fields vs) (hbd0 : BearsD od fx) (hp : (a, oe) ∈ X.pn) (hp2 : (da, od) ∈ X.pn) (hr : RoomH k X.A) (hm : X.mg x = some (.ref g)) (hk : PySem.W.keepIn X.K (.ref g) = true) (hb : Binds X.K fd ps [])
    (ha : PA X (e :: es) (Am X.K W0 mas)) (hg : Gl X x := by rfl) (hdb : (x == ("__debug__" : Str)) = false := by decide)
    (he : starEach (e :: es) X.env = (false, eval e X.env) :: starEach es X.env := by rfl) (hpl : (backTo pos (starEach es X.env)).any (·.1) = false := by rfl) : PE X (.Call (.Name x p) (e :: es) [] pos) (Em X.K W0 (mCall f mas)) := by
  constructor
  intro pins st σ H Q I h
  obtain ⟨ρ, τ, S, s, er, po⟩ := h
  have args := ha.run pos pins st σ H (fun vs H1 => Sf X.K f vs H1 Q (fun _ _ _ => False)) I (Am_bind s er po fun ρ1 H1 S1 vs ds s1 e1 x1 v1 p1 => ⟨ρ1, S1, ds, s1, v1, p1⟩)
  apply wpAny_Call_Name_kw
  apply ld_glob I hg hm _ hdb
  apply PySem.W.callWith_K (h₀ := X.base) I.ok.mod.kin hk _ he hpl
  apply thn args
  rintro us s1 ⟨vs, H1, I1, r, q⟩
  refine ⟨I1.kIn, ?_⟩
  have pok : ∀ q, q ∈ X.pn → PinOk X.stack H1 s1 q := fun q hq => by
    have P1 := I1.pin q (List.mem_append_left _ hq)
    exact ⟨P1.1, P1.2.1, fun hm => (List.mem_cons.mp (I1.stkSub _ hm)).elim P1.2.2.1 P1.2.2.2.1, P1.2.2.2.2⟩
  obtain ⟨ρ', S', ds', s', v', p'⟩ := q
  have hl : (us ++ []).length = ps.length := by rw [List.append_nil, ← r.length, v'.length]; exact F.len ds' S' p'.nbad
  have hb' := hb s1 us I1.kIn hl
  rw [List.append_nil] at hb'
  have main := F.run X.A X.stack s1 H1 _ us vs Q _ oe od da hr (pok _ hp) (pok _ hp2) hz hf hbd0 I1.env0 hb' r ⟨ρ', S', ds', s', v', p'⟩
  show wpAny _ _ (call (.ref g) us) _ _ _
  refine wpAny_call (codeAny_mono main ?_)
  intro res st' q2
  match res, q2 with
  | .error e, q2 =>
    obtain ⟨_, _, _, _, _, _, _, _, _, _, _, _, z⟩ := q2
    exact z.elim
  | .ok (.ret u), q2 => exact I1.after q2
  | .ok .next, q2 => exact False.elim q2
  | .ok .brk, q2 => exact False.elim q2
  | .ok .cont, q2 => exact False.elim q2
/-! ### isinstance, the error having fields -/
theorem call_isX {a C : Addr} {oe : Obj} (E : ExcC X.K C) (hz : Zc (.ref C) (some da) oe) (hf : ∃ vs, oe.data = .fields vs) (hp : (a, oe) ∈ X.pn) (hp2 : (da, od) ∈ X.pn) : CallR X (.builtin "isinstance") (rIsE X.K C a) := by
  intro pins s σ H xs us Q I r h
  obtain ⟨cv, cu, b, e0, hcv, e, q⟩ := h
  subst e0
  obtain _ | ⟨rx, rr⟩ := r
  obtain _ | ⟨rt, rr⟩ := rr
  cases rr
  cases rx
  cases hcv _ rt
  obtain ⟨vs, hv⟩ := hf
  have hget := (I.pin (a, oe) (List.mem_append_left _ hp)).1
  have hget2 := (I.pin (da, od) (List.mem_append_left _ hp2)).1
  have J : PySem.W.InstAt s.heap a oe C (some od) := ⟨hget, hz.1, by unfold PySem.W.notCls; rw [hv] <;> rfl, by rw [hz.2]; exact hget2⟩
  refine PySem.W.kia_one (PySem.W.kitx_exc (by obtain ⟨cd, hc, _⟩ := PySem.W.any_some E.hd; rw [hc]; rfl) E.hg E.hk E.hs E.ha E.hn E.ht E.hm) I.kIn J e (fun z => nomatch z) fun tk => ?_
  exact ⟨.bl b, H, I.kept (t' := tk) fun _ _ z => z, rfl, q⟩
theorem isX_core {i : Nat} {t : Str} {p1 p2 : Pos} {cv : V} {cu : Value} {b : Bool} (hm : X.mg "isinstance" = none) (E : ExcC X.K C) (hz : Zc (.ref C) (some da) oe) (hf : ∃ vs, oe.data = .fields vs) (hp : (a, oe) ∈ X.pn) (hp2 : (da, od) ∈ X.pn) (hv : PE X (.Name x p1) (tVar i)) (ht : PE X (.Name t p2) (tC cv)) (hcv : ∀ u, RelV cv u → u = cu) (hk : PySem.W.kitOne X.K (.ref C) cu = some b) (hg : Gl X "isinstance") :
    PE X (.Call (.Name "isinstance" p) [.Name x p1, .Name t p2] [] pos) (Em X.K W (mIsE a i b)) :=
  PE_imp (pe_callB (call_isX E hz hf hp hp2) hg hm PyProof.Rows.boot_isinstance (pa_cons hv (pa_cons ht pa_nil))) fun σ H Q ⟨ρ, τ, S, s, r, q⟩ => by
    unfold mIsE at q
    split at q
    · rename_i a' e
      split at q
      · rename_i ea
        subst ea
        obtain ⟨v, h1, h2⟩ := r.2 i _ e
        cases h2
        exact ⟨_, h1, cv, cu, b, rfl, hcv, hk, q.here s (.bl b)⟩
      · exact q.elim
    · exact q.elim
/-- what is to be known of an own class with fields that is raised -/
structure OwnX (K : PySem.W.Frag) (hd : Str) (ts : List Str) (c : Str) (fs : List Str) (C : Addr) : Prop where
  cls : clsAt K c = .ref C
  oex : OexC K C
  xf : XfC K C
  no : ∀ f ∈ fs, PySem.W.findIn K (.ref C) f = some none
  isE : ExcC K C
  hdl : PySem.W.exmOne K (.ref C) (clsAt K hd) = some true
  ve : PySem.W.kitOne K (.ref C) (.type "ValueError") = some true
  is : ∀ t ∈ ts, PySem.W.kitOne K (.ref C) (clsAt K t) = some (decide (c = t)) ∧ ∃ D, clsAt K t = .ref D
theorem z_isX {i : Nat} {t : Str} {p1 p2 : Pos} {c hd : Str} {ts fs : List Str} (O : OwnX X.K hd ts c fs C) (ht : t ∈ ts) (gt : X.mg t = some (clsAt X.K t)) (hm : X.mg "isinstance" = none) (hz : Zc (.ref C) (some da) oe) (hf : ∃ vs, oe.data = .fields vs) (hp : (a, oe) ∈ X.pn) (hp2 : (da, od) ∈ X.pn) (hv : PE X (.Name x p1) (tVar i)) (hg : Gl X "isinstance" := by rfl) (hgt : Gl X t := by rfl) (hdb : (t == ("__debug__" : Str)) = false := by decide) :
    PE X (.Call (.Name "isinstance" p) [.Name x p1, .Name t p2] [] pos) (Em X.K W (mIsE a i (decide (c = t)))) := by
  obtain ⟨h1, D, h2⟩ := O.is t ht
  refine isX_core (cv := .ref D) (cu := .ref D) hm O.isE hz hf hp hp2 hv (pe_glob hgt gt (by rw [h2]; exact rfl) hdb) (fun u ru => ?_) (by rw [← h2]; exact h1) hg
  cases ru; rfl
theorem z_isVX {i : Nat} {p1 p2 : Pos} {c hd : Str} {ts fs : List Str} (O : OwnX X.K hd ts c fs C) (hn : X.mg "ValueError" = none) (hm : X.mg "isinstance" = none) (hz : Zc (.ref C) (some da) oe) (hf : ∃ vs, oe.data = .fields vs) (hp : (a, oe) ∈ X.pn) (hp2 : (da, od) ∈ X.pn) (hv : PE X (.Name x p1) (tVar i)) (hg : Gl X "isinstance" := by rfl) (hgt : Gl X "ValueError" := by rfl) :
    PE X (.Call (.Name "isinstance" p) [.Name x p1, .Name "ValueError" p2] [] pos) (Em X.K W (mIsE a i true)) := by
  refine isX_core (cv := .ty "ValueError") (cu := .type "ValueError") hm O.isE hz hf hp hp2 hv (pe_bltn hgt hn (u := .type "ValueError") (by rfl) rfl (by decide)) (fun u ru => ?_) O.ve hg
  cases ru; rfl
/-! ### a field read -/
def mXf (a : Addr) (i : Nat) (f : Str) (fx : List (Str × D)) : ME := fun τ S => match τ[i]? with
  | some (some (.ob (.ref a'))) => if a' = a then (match fx.lookup f with
    | some d => (match flatD d with
      | some _ => .ok d S
      | none => .bad)
    | none => .bad) else .bad
  | _ => .bad
theorem VR.flat {K : PySem.W.Frag} {ρ : Pl} {H : Hp} {d : D} {v : V} (h : flatD d = some v) : VR K ρ H v d := by
  cases d <;> simp only [flatD, reduceCtorEq, Option.some.injEq] at h <;> subst h <;> constructor
theorem handed_flat {d : D} {v : V} {u : Value} (h : flatD d = some v) (r : RelV v u) : PySem.W.handedIn u = true := by
  cases d <;> simp only [flatD, reduceCtorEq, Option.some.injEq] at h <;> subst h
  all_goals first | (cases r; rfl) | (obtain ⟨t, rfl⟩ := r; rfl) | (obtain rfl : u = _ := r; rfl)
theorem z_xf {i : Nat} {c hd f : Str} {ts fs : List Str} {p1 : Pos} (O : OwnX X.K hd ts c fs C) (hno : ∀ f d, fx.lookup f = some d → f ∈ fs) (hz : Zc (.ref C) (some da) oe) (hf : ∃ vs, oe.data = .fields vs) (hb : BearsD od fx) (hp : (a, oe) ∈ X.pn) (hp2 : (da, od) ∈ X.pn) (hv : PE X (.Name x p1) (tVar i))
    (hat : attributeBase (.Name x p1) f X.env (eval (.Name x p1) X.env) = eval (.Name x p1) X.env := by rfl) : PE X (.Attribute (.Name x p1) f pos) (Em X.K W (mXf a i f fx)) := by
  refine ⟨fun pins s σ H Q I h => ?_⟩
  obtain ⟨ρ, τ, S, sr, r, q⟩ := h
  unfold mXf at q
  split at q
  case h_2 => exact q.elim
  rename_i a' e
  split at q
  case isFalse => exact q.elim
  rename_i ea
  subst ea
  split at q
  case h_2 => exact q.elim
  rename_i d ed
  split at q
  case h_2 => exact q.elim
  rename_i v ev
  obtain ⟨w, h1, h2⟩ := r.2 i _ e
  cases h2
  refine attr_of hat (thn (hv.run pins s σ H (fun v' H' => v' = .ref a' ∧ H' = H) I ⟨_, h1, rfl, rfl⟩) fun u s1 ⟨v', H1, I1, r1, e1, e2⟩ => ?_)
  subst e1 e2
  obtain rfl : u = Value.ref a' := r1
  obtain ⟨vs, hd⟩ := hf
  have hget := (I1.pin (a', oe) (List.mem_append_left _ hp)).1
  have hget2 := (I1.pin (da, od) (List.mem_append_left _ hp2)).1
  have J : PySem.W.InstAt s1.heap a' oe C (some od) := ⟨hget, hz.1, by unfold PySem.W.notCls; rw [hd] <;> rfl, by rw [hz.2]; exact hget2⟩
  obtain ⟨u, hu, ru⟩ := hb f d v ed ev
  exact HandSPX.exc_get I1.kIn J O.xf.ga O.xf.gg O.xf.exC (PySem.W.findObj_own O.xf.hdC (O.no f (hno f d ed)) rfl hu) (handed_flat ev ru) ⟨v, _, I1.tok _, ru, q.here sr (.flat ev)⟩
end
end Z

/-! Z56: a lambda called by a def that tells what it raises, errors with fields too. -/
namespace Z
open PySem L2 PySem.Spec PyProof.Rows
open L2H (RoomH PinOk cxH inv_startH roomH_of)
/-- as mWordM; kfx tells of errors with fields -/
noncomputable def mWordX (Ts : List (Addr × Str)) (i : Nat) (told : Str) (kf : Str → Option D) (kfx : Str → List (Str × D) → Option D) (m : ME) : ME := fun τ S => match Ts[i]? with
  | some p => if p ∈ tabsOf S then (match m τ S with
    | .ok d S1 => .ok (.tup [.str told, d]) S1
    | .ex c [] S1 => (match kf c with
      | some dd => .ok dd S1
      | none => .bad)
    | .ex c (p :: ps) S1 => (match kfx c (p :: ps) with
      | some dd => .ok dd S1
      | none => .bad)
    | _ => .bad) else .bad
  | none => .bad
def EChX (K : PySem.W.Frag) (kf : Str → Option D) (kfx : Str → List (Str × D) → Option D) (Q : VK) : XK := fun cls d H' => ECh K kf Q cls d H' ∨
  ∃ c fs dd da ws, kfx c fs = some dd ∧ cls = clsAt K c ∧ d = some da ∧ H' da = some (.xd ws) ∧ ∃ ρ S, da ∉ ρ ∧ SR K ρ S H' ∧ KR (VR K ρ H') ws fs ∧ ∀ ρ' H'' v, Ext ρ H' ρ' H'' → SR K ρ' S H'' → VR K ρ' H'' v dd → Q v H''
def SuiteOkX (Y : Cx) (kfx : Str → List (Str × D) → Option D) (be : Str) (suite : List Stmt) : Prop := ∀ c fs dd, kfx c fs = some dd → ∃ C, clsAt Y.K c = .ref C ∧ PySem.W.exmOne Y.K (.ref C) (clsAt Y.K be) = some true ∧
  ∀ (a da : Addr) (oe od : Obj) (pn : List (Addr × Obj)), Zc (.ref C) (some da) oe → (∃ vs, oe.data = .fields vs) → BearsD od fs → ∃ m : MS, PSs (Y.suite a ((a, oe) :: pn ++ [(da, od)])) suite (Sm Y.K W0 m) ∧ ∀ S, m [none, some (.ob (.ref a))] S = .rt dd S
theorem bearsD_of {K : PySem.W.Frag} {ρ : Pl} {H : Hp} {od : Obj} {ws : List (Str × V)} {fs : List (Str × D)} (h : Bears od ws) (k : KR (VR K ρ H) ws fs) : BearsD od fs := fun f d v e1 e2 => by
  obtain ⟨w, h1, h2⟩ := k.look.2 d e1
  obtain ⟨rfl, _⟩ := flatD_of h2 e2
  exact h f w h1
/-- the suite, the error having fields -/
theorem suite_xd {Y : Cx} {a da : Addr} {oe : Obj} {pn pins : List (Addr × Obj)} {ws : List (Str × V)} {fs : List (Str × D)} {dd : D} {σ : L2.St} {H : Hp} {D0 : Ends} {s : Shared} {suite : List Stmt} {ρ : Pl} {S : Sto} (hx : H da = some (.xd ws)) (hρ : da ∉ ρ) (sr : SR Y.K ρ S H) (kr : KR (VR Y.K ρ H) ws fs)
    (hl : σ.length = 2) (hσ : σ[1]? = some (some (.ref a))) (I : Inv (Y.suite a ((a, oe) :: pn)) pins σ H s)
    (hsu : ∀ od, BearsD od fs → ∃ m : MS, PSs (Y.suite a ((a, oe) :: pn ++ [(da, od)])) suite (Sm Y.K W0 m) ∧ ∀ S, m [none, some (.ob (.ref a))] S = .rt dd S)
    (hq : ∀ ρ' H'' v, Ext ρ H ρ' H'' → SR Y.K ρ' S H'' → VR Y.K ρ' H'' v dd → D0.rt v H'') :
    wpAny (model Y.prog Y.w) (Y.suite a ((a, oe) :: pn)).A (execs suite (Y.suite a ((a, oe) :: pn)).env) (SP (Y.suite a ((a, oe) :: pn)) pins D0) (Y.suite a ((a, oe) :: pn)).xe s := by
  obtain ⟨od, ho, hb, I2⟩ := pin_xd (X := Y.suite a []) (pn := (a, oe) :: pn) I hx
  obtain ⟨m, hm, hr⟩ := hsu od (bearsD_of hb kr)
  refine wpAny_mono (hm.run pins s σ (offH H da) { nx := fun _ _ => False, rt := fun v H'' => H'' da = none → D0.rt v (upd H'' da (.xd ws)) } I2 ?_) (fun fl s' h => ?_) fun _ _ x => x
  · refine ⟨ρ, [none, some (.ob (.ref a))], S, sr.off hx hρ, ⟨hl.symm, fun i d e => ?_⟩, ?_⟩
    · match i, e with
      | 0, e => cases e
      | 1, e => cases e; exact ⟨_, hσ, .ob _⟩
    · rw [hr S]
      intro ρ' H'' v e s' v' hn
      have nl : ∀ {b : Addr}, b ∈ ρ'.loc → b ≠ da := fun {b} hb z => by
        obtain ⟨l, hl, rfl⟩ := List.getElem_of_mem hb
        have h3 : l < S.length := by rw [← s'.len]; exact hl
        obtain ⟨c, c1, c2⟩ := s'.cell l S[l] (by simp [h3])
        rw [List.getElem?_eq_getElem hl] at c1
        cases c1
        obtain ⟨o, ho⟩ := c2.isSome
        rw [z, hn] at ho; cases ho
      have nh : ∀ {b : Addr}, b ∈ ρ'.hid → b ≠ da := fun {b} hb z => by
        obtain ⟨_, o, ho, _⟩ := s'.hd b hb
        rw [z, hn] at ho; cases ho
      exact hq ρ' _ v (ext_back e hn hx (fun z => nl z rfl) fun z => nh z rfl) (s'.laid hn) (VR.mono (Ext.fresh hn) v')
  · match fl, h with
    | .ret u, ⟨v, σ', H', J, rv, q⟩ =>
      have hn : H' da = none := (J.pin (da, od) (by simp)).2.1
      exact ⟨v, σ', _, unpin_xd (X := Y.suite a []) (pn := (a, oe) :: pn) I hx ho J, rv, q hn⟩
    | .next, ⟨_, _, _, q⟩ => exact q.elim
    | .brk, ⟨_, _, _, q⟩ => exact q.elim
    | .cont, ⟨_, _, _, q⟩ => exact q.elim
theorem word_givesX {X : Cx} {a n be told q : Str} {g : Addr} {cdv : Value} {sc : Scope} {x : Str} {kf : Str → Option D} {kfx : Str → List (Str × D) → Option D} {b₀ : Stmt} {suite : List Stmt} {j0 : Nat} {p0 p1 p2 p3 p4 p5 p6 np : Pos} {x1 : Nat} (nd : [a, n].Nodup) (hln : sc.names.lookup n = some .local)
    (hge : sc.names.lookup be = some .globalImplicit) (hdb : (be == ("__debug__" : Str)) = false) (hme : X.mg be = some (clsAt X.K be))
    (hsu : ∀ s H, SuiteOk (cxOf C8.CX0 X.prog X.w X.K X.mg X.base [a, n] x sc g cdv X.A X.stack s H C8.E0).nox kf be (b₀ :: suite))
    (hsx : ∀ s H, SuiteOkX (cxOf C8.CX0 X.prog X.w X.K X.mg X.base [a, n] x sc g cdv X.A X.stack s H C8.E0).nox kfx be (b₀ :: suite)) :
    LamX.GivesTo X [a, n] x sc g cdv [.Try [.Return (some (.Tuple [.Constant (.str told) j0 p0, .Call (.Name a p1) [] [] p2] x1 p3)) p4] [.ExceptHandler (some (.Name be np)) (some n) (b₀ :: suite) p5] [] [] p6] a q (fun tl H Q => tl (EChX X.K kf kfx Q) H (QTold told Q)) := by
  intro f c' s H Q tl act hc h
  have hgl : Gl (cxOf C8.CX0 X.prog X.w X.K X.mg X.base [a, n] x sc g cdv X.A X.stack s H C8.E0).nox be := hge
  refine ⟨_, pss_one (ps_try_as (i := 1) (X := (cxOf C8.CX0 X.prog X.w X.K X.mg X.base [a, n] x sc g cdv X.A X.stack s H C8.E0).nox) (c := clsAt X.K be)
    (tb := fun W D σ H => ∃ Ec : XK, (∀ cls d σ' H', Ec cls d H' → W cls d σ' H') ∧ σ[0]? = some (some (.ref f)) ∧ H c' = some (LamX.CodeO c' q) ∧ tl Ec H (QTold told D.rt))
    (ts := fun a' cls d D σ H => (∃ c dd, kf c = some dd ∧ cls = clsAt X.K c ∧ d = none ∧ (σ.length = 2 → σ[1]? = some (some (.ref a'))) ∧ ∃ ρ S, SR X.K ρ S H ∧ ∀ ρ' H'' v, Ext ρ H ρ' H'' → SR X.K ρ' S H'' → VR X.K ρ' H'' v dd → D.rt v H'') ∨
      ∃ c fs dd da ws, kfx c fs = some dd ∧ cls = clsAt X.K c ∧ d = some da ∧ H da = some (.xd ws) ∧ (σ.length = 2 → σ[1]? = some (some (.ref a'))) ∧ ∃ ρ S, da ∉ ρ ∧ SR X.K ρ S H ∧ KR (VR X.K ρ H) ws fs ∧ ∀ ρ' H'' v, Ext ρ H ρ' H'' → SR X.K ρ' S H'' → VR X.K ρ' H'' v dd → D.rt v H'')
    rfl rfl nd rfl hln ⟨hgl, hdb, .inl hme⟩ LamX.takes0 (fun W pn xe tk _ => ?_) (fun a' oe cls d pn hz hf => ?_)), ?_⟩
  · refine ⟨fun pins s' σ H' D I h' => ?_⟩
    obtain ⟨Ec, hW, h1, h2, h3⟩ := h'
    have hp := act W pn xe Ec p1 p2 tk hW
    exact (pss_one (ps_ret (pos := p4) (pe_tup (x1 := x1) (pos := p3) (pa_cons pe_str (pa_cons hp pa_nil))))).run pins s' σ H' D I ⟨h1, h2, h3⟩
  · refine ⟨fun pins s' σ H' D I h' => ?_⟩
    have hl : σ.length = 2 := I.len
    rcases h' with ⟨c, dd, hk, rfl, rfl, hσ, ρ, S, sr, hq⟩ | ⟨c, fs, dd, da, ws, hk, rfl, rfl, hx, hσ, ρ, S, hρ, sr, kr, hq⟩
    · obtain ⟨C, hC, _, hsu2⟩ := hsu s H c dd hk
      obtain ⟨m, hm, hr⟩ := hsu2 a' oe pn (hC ▸ hz) hf
      refine hm.run pins s' σ H' D I ⟨ρ, [none, some (.ob (.ref a'))], S, sr, ⟨hl.symm, fun i d e => ?_⟩, ?_⟩
      · match i, e with
        | 0, e => cases e
        | 1, e => cases e; exact ⟨_, hσ hl, .ob _⟩
      · rw [hr S]; exact hq
    · obtain ⟨C, hC, _, hsx2⟩ := hsx s H c fs dd hk
      exact suite_xd (Y := (cxOf C8.CX0 X.prog X.w X.K X.mg X.base [a, n] x sc g cdv X.A X.stack s H C8.E0).nox) hx hρ sr kr hl (hσ hl) I (fun od hb => hsx2 a' da oe od pn (hC ▸ hz) hf hb) hq
  · refine ⟨EChX X.K kf kfx Q, fun cls d σ' H' hh => ?_, rfl, hc, h⟩
    have up : ∀ (C : Addr), clsAt X.K be = clsAt X.K be → 1 < σ'.length → (σ'.set 1 (some (V.ref C)))[1]? = some (some (V.ref C)) := fun C _ hl => List.getElem?_set_self hl
    rcases hh with ⟨c, dd, hk, e1, e2, ρ, S, sr, hq⟩ | ⟨c, fs, dd, da, ws, hk, e1, e2, hx, ρ, S, hρ, sr, kr, hq⟩
    · obtain ⟨C, hC, hx, _⟩ := hsu s H c dd hk
      subst e1
      have hC' : clsAt X.K c = .ref C := hC
      refine ⟨true, by rw [hC']; exact hx, fun _ a' _ => .inl ⟨c, dd, hk, rfl, e2, fun hl => ?_, ρ, S, sr, hq⟩, fun z => nomatch z⟩
      rw [List.getElem?_set_self (by simpa using (by simp at hl; omega : 1 < σ'.length))]
    · obtain ⟨C, hC, hxm, _⟩ := hsx s H c fs dd hk
      subst e1
      have hC' : clsAt X.K c = .ref C := hC
      refine ⟨true, by rw [hC']; exact hxm, fun _ a' _ => .inr ⟨c, fs, dd, da, ws, hk, rfl, e2, hx, fun hl => ?_, ρ, S, hρ, sr, kr, hq⟩, fun z => nomatch z⟩
      rw [List.getElem?_set_self (by simpa using (by simp at hl; omega : 1 < σ'.length))]
section
variable {X : Cx} {W : WX}
theorem z_wordX {Ts : List (Addr × Str)} {i : Nat} {a n be told x : Str} {st : Stmt} {g c P : Addr} {fd : FuncData} {k : Nat} {kf : Str → Option D} {kfx : Str → List (Str × D) → Option D} {mb : ME} {b₀ : Stmt} {suite : List Stmt} {j0 : Nat} {p0 p1 p2 p3 p4 p5 p6 np p lpos pos : Pos} {x1 : Nat} {params : Arguments} {body : Expr} {scope : Scope}
    (F : Fun X.K x x st g fd) (hm : X.mg x = some (.ref g)) (hb : Binds X.K fd [a] []) (Sc : FnScope [a, n] [a] (defScope st)) (hln : (defScope st).names.lookup n = some .local) (hva : Vis (defScope st) a)
    (hbd : defBody st = [.Try [.Return (some (.Tuple [.Constant (.str told) j0 p0, .Call (.Name a p1) [] [] p2] x1 p3)) p4] [.ExceptHandler (some (.Name be np)) (some n) (b₀ :: suite) p5] [] [] p6])
    (hge : (defScope st).names.lookup be = some .globalImplicit) (hdb : (be == ("__debug__" : Str)) = false) (hme : X.mg be = some (clsAt X.K be))
    (hsu : ∀ cdv s H, RoomH (k + 1) (cxOf C8.CX0 X.prog X.w X.K X.mg X.base [a, n] x (defScope st) g cdv X.A X.stack s H C8.E0).nox.A → SuiteOk (cxOf C8.CX0 X.prog X.w X.K X.mg X.base [a, n] x (defScope st) g cdv X.A X.stack s H C8.E0).nox kf be (b₀ :: suite))
    (hsx : ∀ cdv s H, RoomH (k + 1) (cxOf C8.CX0 X.prog X.w X.K X.mg X.base [a, n] x (defScope st) g cdv X.A X.stack s H C8.E0).nox.A → SuiteOkX (cxOf C8.CX0 X.prog X.w X.K X.mg X.base [a, n] x (defScope st) g cdv X.A X.stack s H C8.E0).nox kfx be (b₀ :: suite))
    (TB : LamX.TabB X.base X.mg c P) (hcode : X.env.code = .ref c) (hTs : Ts[i]? = some (P, X.env.qual ++ "<lambda>")) (hr : Room (k + 2) X.A) (L : LamX.LamS X.env.scope scope)
    (hbody : ∀ (A : Around) (outer : List Env) (s : Shared) (H : Hp) (E : XK) (f c' : Addr), Room k (A.deeper (LamX.lamEnv X scope s.heap.objs.size f c')) → PE (LamX.lamCx X A outer s H E scope f c') body (Em X.K (fun c d _ H' => E c d H') mb))
    (hg : Gl X x := by rfl) (hdef : defaultsOf params X.env = ([], []) := by rfl)
    (hbind : ∀ (q : Str) (cl : List (Str × Addr)) (pm cv ctv : Value), bindArgs (PySem.W.kla_fn "<lambda>" q params body scope cl pm cv ctv) ⟨[], []⟩ = pure [] := by intros; rfl)
    (hdx : (x == ("__debug__" : Str)) = false := by decide) (hda : (a == ("__debug__" : Str)) = false := by decide) (hdc : (a == ("__classdict__" : Str)) = false := by decide) :
    PE X (.Call (.Name x p) [.Lambda params body scope lpos] [] pos) (Em X.K W (mWordX Ts i told kf kfx mb)) := by
  obtain ⟨oc, od, kV, doc, pm, an, cdv, ct, osl, efd, lk, hcd⟩ := F.ex
  subst efd
  have nd : [a, n].Nodup := Sc.nd
  refine ⟨fun pins s0 σ H Q I h => ?_⟩
  obtain ⟨ρ, τ, S, s, er, po⟩ := h
  unfold mWordX at po
  rw [hTs] at po
  simp only at po
  split at po
  case isFalse => exact po.elim
  rename_i hT
  refine (LamX.pe_lamcall (T := tabsOf S) (a := a) (Ng := [a, n]) (k := k) (t := fun E => Em X.K (fun c d _ H' => E c d H') mb) (TT := fun tl H Q => tl (EChX X.K kf kfx Q) H (QTold told Q))
    hg hm F.kp lk hcd hb Sc rfl hva ?_ TB hcode hT (tabs_one s hT) hr L hdef hbind hbody hdx hda hdc).run pins s0 σ H Q I ?_
  · rw [hbd]
    exact word_givesX nd hln hge hdb hme (fun s H => hsu cdv s H (roomH_of (hr.deeper _))) fun s H => hsx cdv s H (roomH_of (hr.deeper _))
  · refine ⟨s.tabs, fun H1 eN T1 => ?_⟩
    have sr : SR X.K ρ S H1 := s.retab eN T1
    have ex : Ext ρ H ρ H1 := ext_tabs eN
    refine ⟨ρ, τ, S, sr, er.mono ex, ?_⟩
    split at po
    · rename_i d S1 e
      rw [e]
      intro ρ2 H2 v e2 s2 v2
      refine ⟨by rw [sizeLine_eq]; omega, fun p hp => ?_⟩
      exact po ρ2 _ _ ((ex.trans e2).trans (Ext.fresh hp)) (s2.laid hp) (VR.newTup s2 hp (.cons (.str told) (.cons v2 .nil)))
    · rename_i c S1 e
      rw [e]
      split at po
      · rename_i dd hk
        intro ρ2 H2 d2 e2 s2 x2
        rcases x2 with ⟨_, x2⟩ | ⟨x2, _⟩
        · exact .inl ⟨c, dd, hk, rfl, x2, ρ2, S1, s2, fun ρ3 H3 v e3 s3 v3 => po ρ3 H3 v ((ex.trans e2).trans e3) s3 v3⟩
        · exact absurd rfl x2
      · exact po.elim
    · rename_i c f0 fr S1 e
      rw [e]
      split at po
      · rename_i dd hk
        intro ρ2 H2 d2 e2 s2 x2
        rcases x2 with ⟨x2, _⟩ | ⟨_, da, ws, x3, x4, x5, x6⟩
        · cases x2
        · exact .inr ⟨c, _, dd, da, ws, hk, rfl, x3, x4, ρ2, S1, x5, s2, x6, fun ρ3 H3 v e3 s3 v3 => po ρ3 H3 v ((ex.trans e2).trans e3) s3 v3⟩
      · exact po.elim
    · exact po.elim
end
end Z

/-! Z57: errors with fields raised: own __init__, that calls the base's. -/
namespace Z
open PySem L2 PySem.Spec PyProof.Rows
open L2H (RoomH PinOk cxH inv_startH roomH_of)
theorem SR.out {K : PySem.W.Frag} {ρ : Pl} {S : Sto} {H : Hp} {b : Addr} (s : SR K ρ S H) (hn : H b = none) : b ∉ ρ := by
  rintro (hb | hb)
  · obtain ⟨l, hl, rfl⟩ := List.getElem_of_mem hb
    have h3 : l < S.length := by rw [← s.len]; exact hl
    obtain ⟨c, c1, c2⟩ := s.cell l S[l] (by simp [h3])
    rw [List.getElem?_eq_getElem hl] at c1
    cases c1
    obtain ⟨o, ho⟩ := c2.isSome
    rw [hn] at ho; cases ho
  · obtain ⟨_, o, ho, _⟩ := s.hd b hb
    rw [hn] at ho; cases ho
/-! ### a def of the hand layer -/
section
variable {P : Program} {w : World} {K : PySem.W.Frag} {mg : Str → Option Value} {base : Heap}
theorem fnL_of {x qual : Str} {st : Stmt} {g : Addr} {fd : FuncData} {N ps : List Str} {k n : Nat} {T : TS} (F : Fun K x qual st g fd) (Sc : FnScope N ps (defScope st)) (hn : ps.length = n)
    (hb : ∀ (cdv : Value) (A : Around) (fs : List Env) (s : Shared) (H : Hp) (E : XK), Room k (bodyCx P w K mg base N qual st g cdv A fs s H E).A → PSs (bodyCx P w K mg base N qual st g cdv A fs s H E) (defBody st) T) :
    FnOk P w K mg base (L2.CX P w) (k + 1) g fd ps (fun vs H Q _ => vs.length = n ∧ T { nx := fun _ H' => Q .non H', rt := Q } (L2.start N vs) H) := by
  refine ⟨fun vs H Q E h => by rw [hn]; exact h.1, ?_⟩
  intro A fs s H ar us vs Q E hr e0 hbd hv ⟨hlen, hT⟩
  obtain ⟨oc, od, kV, doc, pm, an, cdv, ct, osl, rfl, lk, hcd⟩ := F.ex
  have hlv : vs.length = ps.length := by rw [hn]; exact hlen
  have KX : K.In s.heap := e0.mod.kin.keeps fun b o e => (e0.bs b o e).1
  have lim : s.heap.NoLimit := e0.mod.nolimit.keeps fun b o e => (e0.bs b o e).1
  have hkind : ∀ y ∈ ps.zip us, (defScope st).names.lookup y.1 = some .local ∨ ((defScope st).names.lookup y.1 = some .cell ∧ ((cellsFrom (s.heap.objs.size + 1) (defScope st).names []).lookup y.1).isSome = true) := by
    rintro ⟨nm, u⟩ hy
    rcases Sc.par nm (List.of_mem_zip hy).1 with q | q
    · exact .inl q
    · exact .inr ⟨q, PySem.W.cellsFrom_some _ _ _ (.inl q)⟩
  refine codeAny_call_function hr.depth (KX _ _ lk) rfl Sc.co Sc.gen rfl (PySem.W.codeRec_of KX hcd) (hbd _ _ _ _ ?_)
  refine wpAny_newFunctionEnv_cells Sc.kind hkind ?_
  intro env he s1 ic
  subst he
  refine ⟨lim.keeps ic.toInCall.keep, codeAny_func ?_⟩
  have body := hb cdv A fs s H E (hr.deeper _)
  have I := inv_start (CX := L2.CX P w) (E := E) Sc hr.hd e0 hlv hv ic
  refine wpAny_mono (body.run [] s1 (L2.start N vs) H { nx := fun _ H' => Q .non H', rt := Q } I hT) ?_ fun _ _ z => z
  intro fl s' hs
  have fin : ∀ {σ' : L2.St} {H' : Hp} {v : V} {u : Value}, Inv (bodyCx P w K mg base N qual st g cdv A fs s H E) [] σ' H' s' → RelV v u → Q v H' → CE fs P w H s Q u s' :=
    fun {σ' H' v u} J rv q => ⟨v, H', J.os, J.bare, J.base, J.hok, rv, q⟩
  match fl, hs with
  | .ret u, ⟨v, σ', H', J, rv, q⟩ => exact fin J rv q
  | .next, ⟨σ', H', J, q⟩ => exact fin (v := .non) (u := .none) J rfl q
  | .brk, ⟨_, _, _, q⟩ => exact q.elim
  | .cont, ⟨_, _, _, q⟩ => exact q.elim
end
/-! ### the base's __init__ -/
structure BaseInit (K : PySem.W.Frag) (B : Addr) : Prop where
  keep : PySem.W.keepIn K (.ref B) = true
  ga : PySem.W.specialIn K (.ref B) "__getattribute__" = some (some (.builtin "type.__getattribute__"))
  rd : PySem.W.readsIn K B (.type "type") = true
  fi : PySem.W.findCls K (.ref B) (.type "type") "__init__" = some (.val (.builtin "ValueError.__init__"))
section
variable {X : Cx} {o e : Expr} {es : List Expr} {to te : TE} {ta : TA} {f be : Str} {B : Addr} {p p' p1 p2 pos : Pos}
theorem pe_binit {pl : Sem Bool} (hg : Gl X be) (hm : X.mg be = some (.ref B)) (hB : BaseInit X.K B) (ha : PA X (e :: es) ta)
    (hc : eval (.Call (.Attribute (.Name be p1) "__init__" p2) (e :: es) [] pos) X.env = (do
      let ov ← eval (.Name be p1) X.env
      standAt p2.atName
      let (f, first) ← holding [ov] (getMethod ov "__init__" pl)
      callWith pos f first (backTo pos (starEach (e :: es) X.env)) (backToKw pos (keywordEach [] X.env))) := by rfl)
    (hdb : (be == ("__debug__" : Str)) = false := by decide) (he : starEach (e :: es) X.env = (false, eval e X.env) :: starEach es X.env := by rfl) (hpl : (backTo pos (starEach es X.env)).any (·.1) = false := by rfl) :
    PE X (.Call (.Attribute (.Name be p1) "__init__" p2) (e :: es) [] pos) (tVeI X.K ta) := by
  refine ⟨fun pins s σ H Q I h => ?_⟩
  refine PySem.W.methodCall_KW (ld_glob I hg hm (PySem.W.method_cls I.kIn hB.ga (PySem.W.cls_value I.kIn hB.rd hB.fi rfl ?_)) hdb) hc
  show wpAny _ _ (callWith pos (Value.builtin "ValueError.__init__") [] (backTo pos (starEach (e :: es) X.env)) []) _ _ _
  refine PyProof.Rows.callWith_method1 (thn (ha.run pos pins _ σ H _ (I.tok _) h) fun us s1 ⟨vs, H1, I1, r1, a, C, ws, ev, hl, T, ea, q⟩ => ?_) he hpl
  subst ev
  cases r1 with
  | @cons _ u0 _ ur ra rw' =>
    obtain rfl : u0 = Value.ref a := ra
    have hlen : ur.length ≤ sizeLine := by
      have := Paired.length rw'
      rw [sizeLine_eq]; omega
    exact oinit_ok T I1 ea hlen fun s' J => ⟨.non, H1, J, rfl, q⟩
end
/-- what an __init__ does that hands itself and its one argument to the base's, and keeps the argument -/
def TI1 (K : PySem.W.Frag) (f : Str) : TS := fun D σ H => ∃ a C y, σ[0]? = some (some (.ref a)) ∧ σ[1]? = some (some y) ∧ OexC K C ∧ H a = some (exo a C none) ∧ PySem.W.findIn K (.ref C) f = some none ∧ ∀ dx, H dx = none → dx ≠ a → D.nx σ (upd (upd H dx (exd dx [(f, y)])) a (exo a C (some dx)))
theorem ti1 {K : PySem.W.Frag} {f : Str} (D : Ends) (σ : L2.St) (H : Hp) (h : TI1 K f D σ H) : tSeq (tDrop (tVeI K (tCons (tVar 0) (tCons (tVar 1) tNil)))) (tOst K f (tVar 0) (tVar 1)) D σ H := by
  obtain ⟨a, C, y, h0, h1, T, ea, hf, hq⟩ := h
  exact ⟨_, h0, _, h1, a, C, [y], rfl, by simp, T, ea, _, h1, _, h0, a, C, rfl, T, hf, .inl ⟨ea, hq⟩⟩
/-! ### raised -/
/-- raise c(..), the class's __init__ keeping what is handed in as fs -/
def sRaiseF (c : Str) (fs : List Str) (mas : MA) : MS := fun τ S => match mas τ S with
  | .ok ds S1 => if ds.length = fs.length then .ex τ c (List.zip fs ds).reverse S1 else .bad
  | .ex c' g S1 => .ex τ c' g S1
  | .bad => .bad
section
variable {X : Cx} {W : WX} {c f g : Str} {C fI : Addr} {k : Nat} {fd : FuncData} {ps N : List Str} {e e1 e2 : Expr} {mas : MA} {p pos pos' : Pos}
theorem heap_let {H H1 : Hp} {a dx : Addr} {ws : List (Str × V)} (hn : H1 a = none) (hd : dx ≠ a) (h1 : ∀ b, b ≠ a → b ≠ dx → H b = H1 b) : upd (del H a) dx (.xd ws) = upd H1 dx (.xd ws) := by
  funext b
  by_cases hb : b = dx
  · rw [hb, upd_same, upd_same]
  · rw [upd_ne hb, upd_ne hb]
    by_cases ha : b = a
    · rw [ha, del_same, hn]
    · rw [del_ne ha, h1 b ha hb]
theorem sRaiseF_args {fs : List Str} {D0 : Ends} {σ : L2.St} {H : Hp} {Q1 : List V → Hp → Prop} (h : Sm X.K W (sRaiseF c fs mas) D0 σ H)
    (k : ∀ ρ1 H1 S1 vs ds, ds.length = fs.length → SR X.K ρ1 S1 H1 → VRs X.K ρ1 H1 vs ds → (∀ H2 dx ws, H1 dx = none → H2 = upd H1 dx (.xd ws) → KR (VR X.K ρ1 H1) ws (List.zip fs ds).reverse → ws ≠ [] → W (clsAt X.K c) (some dx) σ H2) → Q1 vs H1) : Am X.K W mas σ H Q1 := by
  obtain ⟨ρ, τ, S, s, r, q⟩ := h
  refine ⟨ρ, τ, S, s, r, ?_⟩
  unfold sRaiseF at q
  cases e : mas τ S with
  | bad => rw [e] at q; exact q.elim
  | ex c' g S1 => rw [e] at q; exact fun ρ' H' dd e' s' x' => q ρ' σ H' dd e' s' (r.mono e') x'
  | ok ds S1 =>
    rw [e] at q
    simp only at q
    split at q
    case isFalse => exact q.elim
    rename_i hl
    intro ρ1 H1 vs e1 s1 v1
    refine k ρ1 H1 S1 vs ds hl s1 v1 fun H2 dx ws hn e2 kr hne => ?_
    subst e2
    refine q ρ1 σ _ (some dx) (e1.trans (Ext.fresh hn)) (s1.laid hn) ((r.mono e1).mono (Ext.fresh hn)) (.inr ⟨?_, dx, ws, rfl, upd_same, s1.out hn, kr.mono fun _ _ z => z.mono (Ext.fresh hn)⟩)
    intro z
    rw [z] at kr
    cases kr
    exact hne rfl
theorem s_raise1 {hd : Str} {ts : List Str} (O : OwnX X.K hd ts c [f] C) (iC : PySem.W.findIn X.K (.ref C) "__init__" = some (some (.ref fI))) (tI : PySem.W.typeIn X.K (.ref fI) = some (.type "function"))
    (F1 : FnOk X.prog X.w X.K X.mg X.base (L2.CX X.prog X.w) k fI fd ps (fun vs H Q _ => vs.length = 2 ∧ TI1 X.K f { nx := fun _ H' => Q .non H', rt := Q } (L2.start N vs) H)) (hN : N.length = 2) (hr : Room (k + 1) X.A) (hb : Binds X.K fd ps []) (hc : X.calm = true) (tk : Takes X W)
    (gC : X.mg c = some (clsAt X.K c)) (ha : PA X [e] (Am X.K W mas)) (hg : Gl X c := by rfl) (hdb : (c == ("__debug__" : Str)) = false := by decide) (he : starEach [e] X.env = (false, eval e X.env) :: starEach [] X.env := by rfl) (hpl : (backTo pos (starEach [] X.env)).any (·.1) = false := by rfl) :
    PS X (.Raise (some (.Call (.Name c p) [e] [] pos)) none pos') (Sm X.K W (sRaiseF c [f] mas)) :=
  PS_imp (ps_raise hc tk (pmk_oex O.oex iC tI F1 hr hb .nil (fun pins σ H s e s' I z => no_out σ pins H s e s' I z) hg (by rw [gC, O.cls]) ha hdb he hpl)) fun D σ H h => sRaiseF_args h fun ρ1 H1 S1 vs ds hl s1 v1 q => by
    match ds, hl, v1 with
    | [d], _, .cons (v := v) r1 .nil =>
      refine ⟨by simp, fun a hn => ⟨rfl, a, C, v, by simp [L2.start], by simp [L2.start], O.oex, upd_same, O.no f (by simp), fun dx hd hne => ?_⟩⟩
      have hd1 : H1 dx = none := by rw [upd_ne hne] at hd; exact hd
      refine ⟨rfl, dx, [(f, v)], upd_same, by rw [upd_ne hne]; exact upd_same, hd1, ?_⟩
      have := q _ dx [(f, v)] hd1 rfl (.cons r1 .nil) (by simp)
      rw [O.cls] at this
      show W _ _ _ _
      rw [heap_let hn hne]
      · exact this
      · intro b h1 h2
        rw [upd_ne h1, upd_ne h2, upd_ne h1]
end
end Z

/-! Z58: what the written part says of an error class with fields, asked as truths. -/
namespace Z
open PySem L2 PySem.Spec PyProof.Rows
def oexB (K : PySem.W.Frag) (C : Addr) : Bool := (match K.lookup C with
  | some ⟨.type "type", _, .cls cd, sl⟩ => (match cd.mro, sl.toList with
    | .ref C2 :: bm, [_, _, _, _, some (.builtin nw), _] => decide (C2 = C) && (decide (nw = "ValueError.__new__") && (decide (cd.hasDel = false) && (decide (cd.hasDict = true) && PySem.HandSPX.refsVE bm)))
    | _, _ => false)
  | _ => false) && (decide (PySem.W.findIn K (.ref C) "__setattr__" = some (some (.builtin "object.__setattr__"))) && (decide (PySem.W.subIn K (.ref C) (.type "BaseException") = some true) && (decide (PySem.W.typeIn K (.ref C) = some (.type "type")) && PySem.W.keepIn K (.ref C))))
theorem oexB_ok {K : PySem.W.Frag} {C : Addr} (h : oexB K C = true) : OexC K C := by
  unfold oexB at h
  simp only [Bool.and_eq_true, decide_eq_true_eq] at h
  obtain ⟨h0, h1, h2, h3, h4⟩ := h
  refine ⟨?_, h1, h2, h3, h4⟩
  split at h0
  · rename_i dd cd sl ho
    split at h0
    · rename_i C2 bm k0 k1 k2 k3 nw k5 hm hs
      simp only [Bool.and_eq_true, decide_eq_true_eq] at h0
      obtain ⟨rfl, rfl, hdel, hdict, hr⟩ := h0
      obtain ⟨nm, bs, mro, ns, qn, hd, sn, sub, ab, col, del⟩ := cd
      dsimp only at hm hdel hdict
      subst hm hdel hdict
      obtain ⟨l⟩ := sl
      simp only at hs
      subst hs
      exact ⟨nm, qn, ns, bs, bm, sn, sub, ab, col, dd, k0, k1, k2, k3, k5, ho, hr⟩
    · cases h0
  · cases h0
def ownXB (K : PySem.W.Frag) (hd : Str) (ts : List Str) (c : Str) (fs : List Str) : Bool := match clsAt K c with
  | .ref C => oexB K C && (xfB K C && ((fs.all fun f => decide (PySem.W.findIn K (.ref C) f = some none)) &&
    (decide (PySem.W.findIn K (.ref C) "__class__" = some (some (.builtin "object.__class__"))) && (decide (PySem.W.specialIn K (.builtin "object.__class__") "__get__" = some (some (.builtin "getset_descriptor.__get__"))) && (decide (PySem.W.takesIn K (.builtin "object.__class__") = some true) && (decide (PySem.W.mroIn K C (.type "object") = some true) &&
    (decide (PySem.W.exmOne K (.ref C) (clsAt K hd) = some true) && (decide (PySem.W.kitOne K (.ref C) (.type "ValueError") = some true) && ts.all fun t => decide (PySem.W.kitOne K (.ref C) (clsAt K t) = some (decide (c = t))) && (match clsAt K t with
      | .ref _ => true
      | _ => false)))))))))
  | _ => false
theorem ownXB_ok {K : PySem.W.Frag} {hd : Str} {ts : List Str} {c : Str} {fs : List Str} (h : ownXB K hd ts c fs = true) : ∃ C, OwnX K hd ts c fs C := by
  unfold ownXB at h
  split at h
  · rename_i C e
    simp only [Bool.and_eq_true, decide_eq_true_eq, List.all_eq_true] at h
    obtain ⟨h1, h2, h3, h4, h5, h6, h7, h8, h9, h10⟩ := h
    have x := xfB_ok h2
    refine ⟨C, e, oexB_ok h1, x, h3, ⟨x.ga, x.gg, x.exC, x.hdC, h4, h5, h6, h7⟩, h8, h9, fun t ht => ⟨(h10 t ht).1, ?_⟩⟩
    have := (h10 t ht).2
    split at this
    · rename_i D e2; exact ⟨D, e2⟩
    · cases this
  · cases h
def baseB (K : PySem.W.Frag) (B : Addr) : Bool := PySem.W.keepIn K (.ref B) && (decide (PySem.W.specialIn K (.ref B) "__getattribute__" = some (some (.builtin "type.__getattribute__"))) && (PySem.W.readsIn K B (.type "type") && (match PySem.W.findCls K (.ref B) (.type "type") "__init__" with
  | some (.val v) => decide (v = .builtin "ValueError.__init__")
  | _ => false)))
theorem baseB_ok {K : PySem.W.Frag} {B : Addr} (h : baseB K B = true) : BaseInit K B := by
  unfold baseB at h
  simp only [Bool.and_eq_true, decide_eq_true_eq] at h
  obtain ⟨h1, h2, h3, h4⟩ := h
  refine ⟨h1, h2, h3, ?_⟩
  split at h4
  · rename_i v e
    rw [decide_eq_true_eq] at h4
    rw [e, h4]
  · cases h4
theorem lookup_key {α : Type} {f : Str} {d : α} : ∀ {fx : List (Str × α)}, fx.lookup f = some d → f ∈ fx.map (·.1)
  | [], h => by simp at h
  | (k, v) :: fx, h => by
    rw [List.lookup_cons] at h
    split at h
    · rename_i e
      have := beq_iff_eq.mp e
      simp [this]
    · have := lookup_key h
      simp [this]
theorem ownX_at {K : PySem.W.Frag} {hd : Str} {ts : List Str} {c : Str} {fs : List Str} {C : Addr} (h : ∃ D, OwnX K hd ts c fs D) (e : clsAt K c = .ref C) : OwnX K hd ts c fs C := by
  obtain ⟨D, O⟩ := h
  have := O.cls.symm.trans e
  cases this
  exact O
end Z

/-! what each def does -/
namespace Pg
open PySem L2 Z 
variable [Rz]
def kd_FORMS : List (Str × D) := [("charge", .ktup [.int 6, .int 6, .int 4, .int 4]), ("bill", .ktup [.int 6, .int 2]), ("hold", .ktup [.int 6]), ("pledge", .ktup [.int 6, .int 6]), ("miss", .ktup [.int 6]), ("over", .ktup [.int 6]), ("move", .ktup [.int 6, .int 4]), ("judge", .ktup [.int 6, .int 2]), ("pardon", .ktup [.int 6, .int 4]), ("aside", .ktup [.int 6])]
noncomputable def m_is_within : List D → Sto → R D := runD 3 3 (sRet (mAndV (mCall dIsa (aCons (mVar 0) (aCons (mC (.ob (.ty "int"))) aNil))) (mAndV (mNotV (mCall dIsa (aCons (mVar 0) (aCons (mC (.ob (.ty "bool"))) aNil)))) (mChain dLe dLe (mVar 1) (mVar 0) (mVar 2)))))
noncomputable def m_is_upto : List D → Sto → R D := runD 2 2 (sRet (mCall m_is_within (aCons (mVar 0) (aCons (mC (.int 0)) (aCons (mBin dSub (mVar 1) (mC (.int 1))) aNil)))))
noncomputable def m_is_paper : List D → Sto → R D := runD 1 4 (sSeq (sIf (mOr (mNot (mT (mCall dIsa (aCons (mVar 0) (aCons (mC (.ob (.ty "tuple"))) aNil))))) (mOr (mB (mBin dLt (mCall dLen (aCons (mVar 0) aNil)) (mC (.int 2)))) (mNot (mT (mCall dIsa (aCons (mBin dIxA (mVar 0) (mC (.int 1))) (aCons (mC (.ob (.ty "str"))) aNil))))))) (sRet (mC (.bl false))) sNil)
  (sSeq (sAsg 1 (mKGet kd_FORMS (mBin dIxA (mVar 0) (mC (.int 1)))))
  (sSeq (sIf (mOr (mB (mBin (dIsN false) (mVar 1) (mC .non))) (mOr (mB (mBin dNe (mCall dLen (aCons (mVar 0) aNil)) (mBin dAdd (mC (.int 2)) (mCall dLen (aCons (mVar 1) aNil))))) (mNot (mT (mCall m_is_upto (aCons (mBin dIxA (mVar 0) (mC (.int 0))) (aCons (mC (.int 61)) aNil))))))) (sRet (mC (.bl false))) sNil)
  (sRet (mCall dAll (aCons (mComp (iArgs zipA (aCons (mSl (mVar 0) (some (mC (.int 2))) none) (aCons (mVar 1) aNil))) (.tp [2, 3]) [2, 3] tYesM (mCall m_is_upto (aCons (mVar 2) (aCons (mVar 3) aNil)))) aNil))))))
noncomputable def m_is_roll : List D → Sto → R D := runD 1 3 (sSeq (sIf (mOr (mNot (mT (mCall dIsa (aCons (mVar 0) (aCons (mC (.ob (.ty "tuple"))) aNil))))) (mOr (mB (mBin dGt (mCall dLen (aCons (mVar 0) aNil)) (mC (.int 24)))) (mNot (mT (mCall dAll (aCons (mComp (iSeq (mVar 0)) (.nm 1) [1] tYesM (mCall m_is_paper (aCons (mVar 1) aNil))) aNil)))))) (sRet (mC (.bl false))) sNil)
  (sRet (mCall dAll (aCons (mComp (iArgs zipA (aCons (mVar 0) (aCons (mSl (mVar 0) (some (mC (.int 1))) none) aNil))) (.tp [1, 2]) [1, 2] tYesM (mBin dLt (mVar 1) (mVar 2))) aNil))))
end Pg

/-! what each def does -/
namespace V5
open PySem L2 Z 
variable [Rz]
noncomputable def m_law_cell : List D → Sto → R D := runD 2 2 (sSeq (sIf (mB (mBin dLt (mVar 1) (mCall dLen (aCons (mVar 0) aNil)))) (sRet (mBin dIxA (mVar 0) (mVar 1))) sNil)
  (sRet (mC (.int 0))))
noncomputable def m_law_pen : List D → Sto → R D := runD 1 2 (sSeq (sAsg 1 (mCall dMax2 (aCons (mVar 0) (aCons (mBin dSub (mC (.int 0)) (mVar 0)) aNil))))
  (sRet (mLstN (aCons (mVar 1) (aCons (mCall dInt (aCons (mBin dGe (mVar 1) (mBin dPow (mC (.int 10)) (mC (.int 18)))) aNil)) aNil)))))
noncomputable def m_law_draw : List D → Sto → R D := runD 2 5 (sSeq (sIf (mB (mBin dEq (mBin dIxA (mVar 0) (mC (.int 1))) (mC (.int 1)))) (sSeq (sTup [3, 4] (mCall dDivmod (aCons (mBin dIxA (mVar 0) (mC (.int 0))) (aCons (mVar 1) aNil))))
  (sSeq (sSubA (mVar 0) (mC (.int 0)) (mVar 3))
  (sRet (mVar 4)))) sNil)
  (sSeq (sAsg 2 (mBin dMod (mBin dMul (mBin dAdd (mBin dMod (mBin dIxA (mVar 0) (mC (.int 0))) (mC (.int 2147483647))) (mC (.int 40503))) (mC (.int 69621))) (mC (.int 2147483629))))
  (sSeq (sAsg 2 (mBin dMod (mBin dAdd (mBin dMul (mVar 2) (mVar 2)) (mC (.int 7817))) (mC (.int 2147483587))))
  (sSeq (sSubA (mVar 0) (mC (.int 0)) (mBin dMod (mBin dAdd (mBin dMul (mVar 2) (mC (.int 48271))) (mC (.int 11))) (mC (.int 2147483629))))
  (sRet (mBin dMod (mBin dFdiv (mBin dIxA (mVar 0) (mC (.int 0))) (mC (.int 32))) (mVar 1)))))))
noncomputable def m_law_forms : List D → Sto → R D := runD 0 1 (sSeq (sAsg 0 (mDispN [((mC (.str "charge")), (mLst (aCons (mC (.int 5)) (aCons (mC (.int 5)) (aCons (mC (.int 3)) (aCons (mC (.int 3)) aNil)))))), ((mC (.str "bill")), (mLst (aCons (mC (.int 5)) (aCons (mC (.int 1)) aNil)))), ((mC (.str "hold")), (mLst (aCons (mC (.int 5)) aNil))), ((mC (.str "pledge")), (mLst (aCons (mC (.int 5)) (aCons (mC (.int 5)) aNil)))), ((mC (.str "miss")), (mLst (aCons (mC (.int 5)) aNil))), ((mC (.str "over")), (mLst (aCons (mC (.int 5)) aNil)))]))
  (sSeq (sExpr (mMeth "dict" dUpdate (mVar 0) (aCons (mDisp [((mC (.str "move")), (mLst (aCons (mC (.int 5)) (aCons (mC (.int 3)) aNil)))), ((mC (.str "judge")), (mLst (aCons (mC (.int 5)) (aCons (mC (.int 1)) aNil)))), ((mC (.str "pardon")), (mLst (aCons (mC (.int 5)) (aCons (mC (.int 3)) aNil)))), ((mC (.str "aside")), (mLst (aCons (mC (.int 5)) aNil)))]) aNil)))
  (sRet (mVar 0))))
noncomputable def m_law_is_paper : List D → Sto → R D := runD 1 4 (sSeq (sIf (mOr (mNot (mT (mCall dIsa (aCons (mVar 0) (aCons (mC (.ob (.ty "tuple"))) aNil))))) (mOr (mB (mBin dLt (mCall dLen (aCons (mVar 0) aNil)) (mC (.int 2)))) (mNot (mT (mCall dIsa (aCons (mBin dIxA (mVar 0) (mC (.int 1))) (aCons (mC (.ob (.ty "str"))) aNil))))))) (sRet (mC (.bl false))) sNil)
  (sSeq (sAsg 1 (mMeth "dict" dGet1 (mCall m_law_forms aNil) (aCons (mBin dIxA (mVar 0) (mC (.int 1))) aNil)))
  (sSeq (sIf (mOr (mB (mBin (dIsN false) (mVar 1) (mC .non))) (mB (mBin dNe (mCall dLen (aCons (mVar 0) aNil)) (mBin dAdd (mC (.int 2)) (mCall dLen (aCons (mVar 1) aNil)))))) (sRet (mC (.bl false))) sNil)
  (sSeq (sFor (iArgs zipA (aCons (mBin dAdd (mSl (mVar 0) none (some (mC (.int 1)))) (mSl (mVar 0) (some (mC (.int 2))) none)) (aCons (mBin dAdd (mLst (aCons (mC (.int 60)) aNil)) (mVar 1)) aNil))) (.tp [2, 3]) (sIf (mOr (mNot (mT (mCall dIsa (aCons (mVar 2) (aCons (mC (.ob (.ty "int"))) aNil))))) (mOr (mT (mCall dIsa (aCons (mVar 2) (aCons (mC (.ob (.ty "bool"))) aNil)))) (mNot (mB (mChain dLe dLe (mC (.int 0)) (mVar 2) (mVar 3)))))) (sRet (mC (.bl false))) sNil))
  (sRet (mC (.bl true)))))))
noncomputable def m_law_any_paper : List D → Sto → R D := runD 1 5 (sSeq (sAsg 1 (mCall dSortK (aCons (mCall m_law_forms aNil) aNil)))
  (sSeq (sAsg 2 (mBin dIxA (mVar 1) (mCall m_law_draw (aCons (mVar 0) (aCons (mCall dLen (aCons (mVar 1) aNil)) aNil)))))
  (sSeq (sAsg 3 (mLstN aNil))
  (sSeq (sFor (iSeq (mBin dIxA (mCall m_law_forms aNil) (mVar 2))) (.nm 4) (sExpr (mMeth "list" dAppend (mVar 3) (aCons (mBin dIxA (mLst (aCons (mC (.int 0)) (aCons (mVar 4) (aCons (mCall m_law_draw (aCons (mVar 0) (aCons (mBin dAdd (mVar 4) (mC (.int 1))) aNil))) aNil)))) (mCall m_law_draw (aCons (mVar 0) (aCons (mC (.int 3)) aNil)))) aNil))))
  (sRet (mBin dAdd (mTup (aCons (mBin dIxA (mLst (aCons (mC (.int 0)) (aCons (mC (.int 60)) (aCons (mCall m_law_draw (aCons (mVar 0) (aCons (mC (.int 61)) aNil))) aNil)))) (mCall m_law_draw (aCons (mVar 0) (aCons (mC (.int 3)) aNil)))) (aCons (mVar 2) aNil))) (mCall dTuple (aCons (mVar 3) aNil))))))))
noncomputable def m_law_odd : List D → Sto → R D := runD 1 2 (sSeq (sAsg 1 (mLst (aCons (mC .non) (aCons (mC (.bl true)) (aCons (mC (.int 7)) (aCons (mC (.str "0")) (aCons (mC (.str "")) (aCons (mLst aNil) (aCons mDct0 (aCons (mTup aNil) (aCons (mTup (aCons (mC (.int 0)) aNil)) (aCons (mUn dNeg (mC (.int 1))) (aCons (mTup (aCons (mC (.int 0)) (aCons (mC (.int 0)) aNil))) (aCons (mLst (aCons (mC (.int 0)) aNil)) (aCons (mC (.bl false)) (aCons (mTup (aCons (mTup aNil) aNil)) (aCons (mTup (aCons (mC (.int 0)) (aCons (mC (.str "hold")) (aCons (mC (.int 0)) aNil)))) (aCons (mC (.int 61)) (aCons (mBin dPow (mC (.int 10)) (mC (.int 30))) aNil)))))))))))))))))))
  (sRet (mBin dIxA (mVar 1) (mCall m_law_draw (aCons (mVar 0) (aCons (mC (.int 17)) aNil))))))
end V5

/-! SpA: papers, causes, readings in plain Lean; papers as trees. -/
namespace Sp
open PySem L2 Z

/-! ### rows of keys as data -/
theorem py_row : ∀ ks : List Key, toPyDs (ks.map keyD) = some (ks.map keyPy)
  | [] => rfl
  | k :: ks => by
    simp only [List.map_cons, toPyDs, py_row ks]
    cases k <;> rfl
theorem py_rowD (ks : List Key) : toPyD (rowD ks) = some (.tuple (ks.map keyPy)) := by
  simp [rowD, toPyD, py_row]
theorem plain_keys : ∀ ks : List Key, PyData.plainAll (ks.map keyPy) = true
  | [] => rfl
  | k :: ks => by
    have := plain_keys ks
    cases k <;> simp [keyPy, PyData.plainAll, PyData.plain, this]
theorem depth_keys : ∀ ks : List Key, PyData.depthAll (ks.map keyPy) = 0
  | [] => rfl
  | k :: ks => by
    have := depth_keys ks
    cases k <;> simp [keyPy, PyData.depthAll, PyData.depth, this]
theorem eqv_key (a b : Key) : PyData.eqv (keyPy a) (keyPy b) = decide (a = b) := by
  cases a <;> cases b <;> simp [keyPy, PyData.eqv] <;> rfl
theorem eqv_keys : ∀ a b : List Key, PyData.eqvAll (a.map keyPy) (b.map keyPy) = decide (a = b)
  | [], [] => by simp [PyData.eqvAll]
  | [], _ :: _ => by simp [PyData.eqvAll]
  | _ :: _, [] => by simp [PyData.eqvAll]
  | x :: xs, y :: ys => by
    simp only [List.map_cons, PyData.eqvAll, eqv_key, eqv_keys xs ys, List.cons.injEq]
    by_cases h : x = y <;> simp [h]
theorem eqv_row (a b : List Key) : PyData.eqv (.tuple (a.map keyPy)) (.tuple (b.map keyPy)) = decide (a = b) := by
  simp [PyData.eqv, eqv_keys]
theorem py_rows : ∀ ks : List (List Key), toPyDs (ks.map rowD) = some (ks.map fun k => .tuple (k.map keyPy))
  | [] => rfl
  | k :: ks => by simp only [List.map_cons, toPyDs, py_rows ks, py_rowD]
theorem plain_rows : ∀ ks : List (List Key), PyData.plainAll (ks.map fun k => .tuple (k.map keyPy)) = true
  | [] => rfl
  | k :: ks => by simp [PyData.plainAll, PyData.plain, plain_keys, plain_rows ks]
theorem row_keys : ∀ ks : List Key, atomsD (ks.map keyD) = some ks
  | [] => rfl
  | k :: ks => by
    cases k <;> simp [keyD, atomsD, row_keys ks]
@[simp] theorem rowOf_row (k : List Key) : rowOfD (rowD k) = some k := row_keys k
/-! ### words, papers -/
inductive Wd where
  | charged | ready | thrown | guilty | clear | pardoned
deriving DecidableEq
def Wd.s : Wd → Str
  | .charged => "charged" | .ready => "ready" | .thrown => "thrown" | .guilty => "guilty" | .clear => "clear" | .pardoned => "pardoned"
def Wd.isOpen : Wd → Bool
  | .charged => true | .ready => true | _ => false
def Wd.judged : Wd → Bool
  | .guilty => true | .clear => true | _ => false
inductive Pa where
  | charge (d c p e t : Int) | bill (d c f : Int) | hold (d c : Int) | pledge (d c p : Int) | miss (d c : Int) | over (d c : Int) | move (d c t : Int) | judge (d c g : Int) | pardon (d p e : Int) | aside (d c : Int)
deriving DecidableEq
def Pa.row : Pa → List Key
  | .charge d c p e t => [.inl d, .inr "charge", .inl c, .inl p, .inl e, .inl t]
  | .bill d c f => [.inl d, .inr "bill", .inl c, .inl f]
  | .hold d c => [.inl d, .inr "hold", .inl c]
  | .pledge d c p => [.inl d, .inr "pledge", .inl c, .inl p]
  | .miss d c => [.inl d, .inr "miss", .inl c]
  | .over d c => [.inl d, .inr "over", .inl c]
  | .move d c t => [.inl d, .inr "move", .inl c, .inl t]
  | .judge d c g => [.inl d, .inr "judge", .inl c, .inl g]
  | .pardon d p e => [.inl d, .inr "pardon", .inl p, .inl e]
  | .aside d c => [.inl d, .inr "aside", .inl c]
def Pa.D (p : Pa) : Z.D := rowD p.row
def Pa.day : Pa → Int
  | .charge d .. => d | .bill d .. => d | .hold d _ => d | .pledge d .. => d | .miss d _ => d | .over d _ => d | .move d .. => d | .judge d .. => d | .pardon d .. => d | .aside d _ => d
theorem row_inj {a b : Pa} : a.row = b.row ↔ a = b := by
  constructor
  · intro h
    cases a <;> cases b <;> simp [Pa.row, ofString_inj] at h <;> simp [h]
  · rintro rfl; rfl
theorem map_D (ps : List Pa) : ps.map Pa.D = (ps.map Pa.row).map rowD := by rw [List.map_map]; rfl
def struckD (struck : List (Pa × Pa)) : List (List Key × Z.D) := struck.map fun x => (x.1.row, x.2.D)
theorem valG_map {κ κ' α β : Type} [DecidableEq κ] [DecidableEq κ'] (f : κ → κ') (g : α → β) (hf : ∀ a b, f a = f b → a = b) (k : κ) : ∀ kvs : List (κ × α), valG (kvs.map fun x => (f x.1, g x.2)) (f k) = (valG kvs k).map g
  | [] => rfl
  | p :: r => by
    rw [List.map_cons, valG_cons, valG_cons, valG_map f g hf k r]
    by_cases h : p.1 = k
    · simp [h]
    · have : f p.1 ≠ f k := fun e => h (hf _ _ e)
      simp [h, this]
end Sp

/-! SpB: the reading of papers in plain Lean. -/
namespace Sp
open PySem L2 Z
structure Be where
  ts : List (Int × Int × Int)
  hold : Int
  puts : Int
  pledges : Int
def tsD (t : Int × Int × Int) : Z.D := .tup [.int t.1, .int t.2.1, .int t.2.2]
def Be.D (b : Be) : Z.D := .tup [.tup (b.ts.map tsD), .int b.hold, .int b.puts, .int b.pledges]
def sitOn (b : Be) (day : Int) : Option (Int × Int × Int) := b.ts.find? fun t => decide (t.1 ≤ day) && decide (day ≤ t.2.1)
structure Ca where
  person : Int
  deed : Int
  town : Int
  word : Wd
  since : Option Int
  spent : Int
  past : List Int
  pledger : Option Int
  puts : Int
  till : Int
  byp : Option Pa
  /-- the day of its charge: nobody but a law keeps it -/
  born : Int
namespace Ca
def new (day person deed town : Int) : Ca := ⟨person, deed, town, .charged, none, 0, [], none, 0, -1, none, day⟩
def used (c : Ca) (most day : Int) : Int := match c.since with
  | none => c.spent
  | some s => min most (c.spent + day - s)
def isHeld (c : Ca) (most day : Int) : Bool := c.since.isSome && decide (c.used most day < most)
def daysTo (c : Ca) (most day : Int) : List Int := match c.since with
  | none => c.past
  | some s => c.past ++ rgI s (s + (c.used most (day + 1) - c.spent))
def letGo (c : Ca) (most day : Int) : Ca := { c with past := c.daysTo most (day - 1), spent := c.used most day, since := none }
def fin (c : Ca) (most day : Int) (w : Wd) : Ca := { c.letGo most day with pledger := none, word := w }
end Ca
structure St where
  causes : List (Int × Ca)
  pardons : List (Int × Int)
  words : List Str
  lost : List (Int × Int × Int)
  strike : Option (Pa × Option Pa)
def St.nil : St := ⟨[], [], [], [], none⟩
def awayB (b : Be) (c : Ca) (day : Int) : Bool := match sitOn b day with
  | none => true
  | some t => decide (t.2.2 ≠ c.town)
def otherJ (st : St) (n p e : Int) : Bool := st.causes.any fun x => decide (x.1 ≠ n) && (decide (x.2.person = p ∧ x.2.deed = e) && x.2.word.judged)
def setC (cs : List (Int × Ca)) (n : Int) (c : Ca) : List (Int × Ca) := cs.map fun x => if x.1 = n then (x.1, c) else x
def St.setC (st : St) (n : Int) (c : Ca) : St := { st with causes := Sp.setC st.causes n c }
def pledgeN (st : St) (q : Int) : Nat := (st.causes.filter fun x => decide (x.2.pledger = some q)).length
def doCharge (st : St) (d n p e t : Int) : Str × St :=
  if (valG st.causes n).isSome then ("again", st)
  else if otherJ st n p e then ("judged", st)
  else if (p, e) ∈ st.pardons then ("pardoned", st)
  else ("takes", { st with causes := st.causes ++ [(n, Ca.new d p e t)] })
def pardC (most d p e : Int) (c : Ca) : Ca := if (c.person = p ∧ c.deed = e) ∧ c.word.isOpen = true then c.fin most d .pardoned else c
def doPardon (b : Be) (st : St) (d p e : Int) : Str × St :=
  if (p, e) ∈ st.pardons then ("again", st)
  else ("takes", { st with pardons := st.pardons ++ [(p, e)], causes := st.causes.map fun x => (x.1, pardC b.hold d p e x.2) })
def doAside (dn : List Pa) (st : St) (p : Pa) (c : Ca) : Str × St :=
  if p ∈ dn then ("takes", st)
  else if c.word.judged = false then ("unjudged", st)
  else ("takes", { st with strike := some (p, c.byp) })
def doHold (b : Be) (st : St) (d n : Int) (c : Ca) : Str × St :=
  if c.pledger.isSome then ("pledged", st)
  else if c.isHeld b.hold d then ("held", st)
  else if c.used b.hold d = b.hold then ("spent", st)
  else ("takes", st.setC n { c.letGo b.hold d with since := some d })
def doPledge (b : Be) (st : St) (d n q : Int) (c : Ca) : Str × St :=
  if c.isHeld b.hold d = false then ("free", st)
  else if q = c.person then ("self", st)
  else if (pledgeN st q : Int) = b.pledges then ("full", st)
  else ("takes", st.setC n { c.letGo b.hold d with pledger := some q })
def doMove (st : St) (n t : Int) (c : Ca) : Str × St :=
  if c.town = t then ("there", st)
  else ("takes", st.setC n { c with town := t, till := -1 })
def doBill (b : Be) (st : St) (d n g : Int) (c : Ca) : Str × St :=
  ("takes", st.setC n (if g = 1 then { c with word := .ready } else c.fin b.hold d .thrown))
def doMiss (b : Be) (st : St) (d n : Int) (c : Ca) : Str × St := match c.pledger with
  | none => ("bare", st)
  | some q => ("takes", ({ st with lost := st.lost ++ [(d, n, q)] } : St).setC n { c with pledger := none, since := if c.used b.hold d < b.hold then some d else c.since })
def lastOn (b : Be) (d : Int) : Int := match sitOn b d with
  | none => 0
  | some t => t.2.1
def doOver (b : Be) (st : St) (d n : Int) (c : Ca) : Str × St :=
  if c.till ≥ d then ("over", st)
  else if c.puts = b.puts then ("worn", st)
  else ("takes", st.setC n { c with puts := c.puts + 1, till := lastOn b d })
def verd (g : Int) : Wd := if g = 0 then .clear else .guilty
def doJudge (b : Be) (st : St) (d n g : Int) (c : Ca) : Str × St :=
  if c.till ≥ d then ("over", st)
  else if otherJ st n c.person c.deed then ("judged", st)
  else ("takes", st.setC n { c.fin b.hold d (verd g) with byp := some (.judge d n g) })
def inOpen (c : Ca) (st : St) (r : Str × St) : Str × St := if c.word.isOpen then r else ("closed", st)
def byBench (b : Be) (ok : Bool) (c : Ca) (d : Int) (st : St) (r : Str × St) : Str × St := if ok then (if awayB b c d then ("away", st) else r) else ("closed", st)
def withC (st : St) (n : Int) (f : Ca → Str × St) : Str × St := match valG st.causes n with
  | none => ("unknown", st)
  | some c => f c
def rdP (b : Be) (dn : List Pa) (st : St) (p : Pa) : Str × St := match p with
  | .charge d n q e t => doCharge st d n q e t
  | .pardon d q e => doPardon b st d q e
  | .aside _ n => withC st n fun c => doAside dn st p c
  | .hold d n => withC st n fun c => inOpen c st (doHold b st d n c)
  | .pledge d n q => withC st n fun c => inOpen c st (doPledge b st d n q c)
  | .move _ n t => withC st n fun c => inOpen c st (doMove st n t c)
  | .bill d n g => withC st n fun c => byBench b (c.word == .charged) c d st (doBill b st d n g c)
  | .miss d n => withC st n fun c => byBench b c.word.isOpen c d st (doMiss b st d n c)
  | .over d n => withC st n fun c => byBench b (c.word == .ready) c d st (doOver b st d n c)
  | .judge d n g => withC st n fun c => byBench b (c.word == .ready) c d st (doJudge b st d n g c)
def rd (b : Be) (sk : List (Pa × Pa)) (dn : List Pa) (st : St) (p : Pa) : Str × St :=
  if (valG sk p).isSome then ("struck", st) else rdP b dn st p
def step (b : Be) (sk : List (Pa × Pa)) (dn : List Pa) (st : St) (p : Pa) : St :=
  if st.strike.isSome then st else { (rd b sk dn st p).2 with words := (rd b sk dn st p).2.words ++ [(rd b sk dn st p).1] }
def pass (b : Be) (sk : List (Pa × Pa)) (dn : List Pa) (ps : List Pa) : St := ps.foldl (step b sk dn) St.nil
def loop (b : Be) (ps : List Pa) : Nat → List (Pa × Pa) → List Pa → St × List (Pa × Pa) × List Pa
  | 0, sk, dn => (pass b sk dn ps, sk, dn)
  | n + 1, sk, dn => match (pass b sk dn ps).strike with
    | none => (pass b sk dn ps, sk, dn)
    | some (p, j) => loop b ps n (putG sk (j.getD p) p) (dn ++ [p])
def readAll (b : Be) (ps : List Pa) : St × List (Pa × Pa) × List Pa := loop b ps ps.length [] []
def reading (b : Be) (ps : List Pa) : St := (readAll b ps).1
def upto (ps : List Pa) (d : Int) : List Pa := ps.filter fun p => decide (p.day ≤ d)
/-- a paper's numbers are in their ranges -/
def okP : Pa → Prop
  | .charge d c p e t => (0 ≤ d ∧ d ≤ 60) ∧ (0 ≤ c ∧ c ≤ 5) ∧ (0 ≤ p ∧ p ≤ 5) ∧ (0 ≤ e ∧ e ≤ 3) ∧ (0 ≤ t ∧ t ≤ 3)
  | .bill d c f => (0 ≤ d ∧ d ≤ 60) ∧ (0 ≤ c ∧ c ≤ 5) ∧ (0 ≤ f ∧ f ≤ 1)
  | .hold d c => (0 ≤ d ∧ d ≤ 60) ∧ (0 ≤ c ∧ c ≤ 5)
  | .pledge d c p => (0 ≤ d ∧ d ≤ 60) ∧ (0 ≤ c ∧ c ≤ 5) ∧ (0 ≤ p ∧ p ≤ 5)
  | .miss d c => (0 ≤ d ∧ d ≤ 60) ∧ (0 ≤ c ∧ c ≤ 5)
  | .over d c => (0 ≤ d ∧ d ≤ 60) ∧ (0 ≤ c ∧ c ≤ 5)
  | .move d c t => (0 ≤ d ∧ d ≤ 60) ∧ (0 ≤ c ∧ c ≤ 5) ∧ (0 ≤ t ∧ t ≤ 3)
  | .judge d c g => (0 ≤ d ∧ d ≤ 60) ∧ (0 ≤ c ∧ c ≤ 5) ∧ (0 ≤ g ∧ g ≤ 1)
  | .pardon d p e => (0 ≤ d ∧ d ≤ 60) ∧ (0 ≤ p ∧ p ≤ 5) ∧ (0 ≤ e ∧ e ≤ 3)
  | .aside d c => (0 ≤ d ∧ d ≤ 60) ∧ (0 ≤ c ∧ c ≤ 5)
end Sp

/-! SpC: what a cause's methods do to its cell. -/
namespace Sp
open PySem L2 Z
section
variable {S : Sto} {l : Nat}
theorem at_set {c1 : C} {c0 : C} (h : S[l]? = some c0) : (S.set l c1)[l]? = some c1 := by
  obtain ⟨hl, _⟩ := List.getElem?_eq_some_iff.mp h
  simp [hl]
end
variable [Rz]
def optD : Option Int → Z.D
  | none => .non
  | some i => .int i
def byD : Option Pa → Z.D
  | none => .non
  | some p => p.D
def Ca.fs (c : Ca) : List (Str × Z.D) := [("person", .int c.person), ("deed", .int c.deed), ("town", .int c.town), ("word", .str c.word.s), ("since", optD c.since), ("spent", .int c.spent), ("past", .lst (c.past.map .int)), ("pledger", optD c.pledger), ("puts", .int c.puts), ("until", .int c.till), ("by", byD c.byp)]
def Ca.cell (c : Ca) : C := .ins "Cause" c.fs
section
variable {c : Ca} {S : Sto} {l : Nat}
/-- small enough for every list made of it -/
structure Sm (c : Ca) : Prop where
  p : c.past.length ≤ 1000
  s : ∀ s, c.since = some s → -1000 ≤ s ∧ s ≤ 1000
  u : -1000 ≤ c.spent ∧ c.spent ≤ 1000
end
end Sp

/-! SpD: loops over plain lists; the store of a reading. -/
namespace Sp
open PySem L2 Z
/-! ### loops over a plain list -/
theorem wpS_imp {o : RS} {N N' : Tau → Sto → Prop} {T T' : Z.D → Sto → Prop} (h : wpS o N T) (k : ∀ τ S, N τ S → N' τ S) (k2 : ∀ d S, T d S → T' d S) : wpS o N' T' := by
  cases o with
  | nx τ S => exact k τ S h
  | rt d S => exact k2 d S h
  | bk τ S => exact h
  | ct τ S => exact h
  | ex τ n fs S => exact h
  | bad => exact h
section
variable {α : Type} {f : α → Z.D} {ks : List (Nat × C)} {g : Tgt} {body : MS} {N : Tau → Sto → Prop} {T : Z.D → Sto → Prop}
theorem for_src (Inv : List α → Tau → Sto → Prop) (hk : ∀ as τ S, Inv as τ S → keepOk ks S) (step : ∀ a as τ S, Inv (a :: as) τ S → ∃ τ1, bindT g (f a) τ = some τ1 ∧ wpS (body τ1 S) (fun τ2 S2 => Inv as τ2 S2) T)
    (fin : ∀ τ S, Inv [] τ S → N τ S) (as : List α) (τ : Tau) (S : Sto) (h : Inv as τ S) : wpS (forL ks g body (as.map f) τ S) N T := by
  refine for_wpK (fun ds τ S => ∃ as, ds = as.map f ∧ Inv as τ S) ?_ ?_ ?_ _ _ _ ⟨as, rfl, h⟩
  · rintro _ τ S ⟨as, _, h⟩; exact hk _ _ _ h
  · rintro d ds τ S ⟨as, e, h⟩
    cases as with
    | nil => simp at e
    | cons a as =>
      simp only [List.map_cons, List.cons.injEq] at e
      obtain ⟨rfl, rfl⟩ := e
      obtain ⟨τ1, h1, h2⟩ := step a as τ S h
      exact ⟨τ1, h1, wpS_imp h2 (fun τ2 S2 h3 => ⟨as, rfl, h3⟩) fun _ _ h3 => h3⟩
  · rintro τ S ⟨as, e, h⟩
    have : as = [] := by cases as with | nil => rfl | cons _ _ => simp at e
    subst this
    exact fin τ S h
theorem keep_nil (S : Sto) : keepOk [] S := keepB_iff.mp (keepB_nil S)
/-- a loop that looks for the first thing -/
theorem for_find {S : Sto} (hk : keepOk ks S) (t : α → Bool) (v : α → Z.D) (P : Tau → Prop) (as : List α) (τ : Tau) (hP : P τ)
    (step : ∀ a ∈ as, ∀ τ, P τ → ∃ τ1, bindT g (f a) τ = some τ1 ∧ wpS (body τ1 S) (fun τ2 S2 => t a = false ∧ P τ2 ∧ S2 = S) (fun d S2 => t a = true ∧ d = v a ∧ S2 = S))
    (h0 : as.find? t = none → ∀ τ, P τ → N τ S) (h1 : ∀ a, as.find? t = some a → T (v a) S) : wpS (forL ks g body (as.map f) τ S) N T := by
  refine for_src (fun bs τ S' => P τ ∧ S' = S ∧ (∀ b ∈ bs, b ∈ as) ∧ bs.find? t = as.find? t) ?_ ?_ ?_ as τ S ⟨hP, rfl, fun _ h => h, rfl⟩
  · rintro _ _ _ ⟨_, rfl, _⟩; exact hk
  · rintro a bs τ S' ⟨p, rfl, hm, he⟩
    obtain ⟨τ1, e1, w⟩ := step a (hm a (by simp)) τ p
    refine ⟨τ1, e1, wpS_imp w ?_ ?_⟩
    · rintro τ2 S2 ⟨ht, hp, rfl⟩
      refine ⟨hp, rfl, fun b hb => hm b (by simp [hb]), ?_⟩
      rw [← he, List.find?_cons, ht]
    · rintro d S2 ⟨ht, rfl, rfl⟩
      exact h1 a (by rw [← he, List.find?_cons, ht])
  · rintro τ S' ⟨p, rfl, _, he⟩
    exact h0 he.symm τ p
/-- a comprehension over a plain list that changes nothing -/
theorem lc_src {S : Sto} {τ : Tau} {vs : List Nat} {tm : MT} {e : ME} (hk : keepOk ks S) (t : α → Bool) (v : α → Z.D) : ∀ (as : List α), (∀ a ∈ as, ∃ τ1, bindT g (f a) (wipeT τ vs) = some τ1 ∧ tm τ1 S = .ok (t a) S ∧ (t a = true → e τ1 S = .ok (v a) S)) → lcL ks g vs tm e (as.map f) τ S = .ok ((as.filter t).map v) S
  | [], _ => by
    unfold lcL
    rw [List.map_nil]
    simp only [keepB_iff.mpr hk, if_true]
    rfl
  | a :: as, step => by
    obtain ⟨τ1, e1, w1, w2⟩ := step a (by simp)
    have rest := lc_src hk t v as (fun d hd => step d (by simp [hd]))
    rw [List.map_cons]
    unfold lcL
    simp only [keepB_iff.mpr hk, if_true]
    rw [e1]
    show (noEx (tm τ1 S)).bind _ = _
    rw [w1, List.filter_cons]
    cases q : t a
    · simp [rest]
    · simp [w2 q, rest]
end
/-- the first n things stand as ahead -/
def Fr (n : Nat) (S S' : Sto) : Prop := S.length ≤ S'.length ∧ ∀ i, i < n → S'[i]? = S[i]?
theorem Fr.refl (n : Nat) (S : Sto) : Fr n S S := ⟨Nat.le_refl _, fun _ _ => rfl⟩
theorem Fr.trans {n : Nat} {S S1 S2 : Sto} (h : Fr n S S1) (h2 : Fr n S1 S2) : Fr n S S2 := ⟨Nat.le_trans h.1 h2.1, fun i hi => (h2.2 i hi).trans (h.2 i hi)⟩
theorem Fr.mono {n m : Nat} {S S1 : Sto} (h : Fr n S S1) (hm : m ≤ n) : Fr m S S1 := ⟨h.1, fun i hi => h.2 i (by omega)⟩
theorem Fr.set {n l : Nat} {S : Sto} {c : C} (hl : n ≤ l) : Fr n S (S.set l c) := ⟨by simp, fun i hi => by rw [List.getElem?_set_ne (by omega)]⟩
theorem Fr.app {n : Nat} {S T : Sto} (hl : n ≤ S.length) : Fr n S (S ++ T) := ⟨by simp, fun i hi => List.getElem?_append_left (by omega)⟩
theorem lt_of_at {S : Sto} {l : Nat} {c : C} (h : S[l]? = some c) : l < S.length := (List.getElem?_eq_some_iff.mp h).1
theorem Fr.at {n l : Nat} {S S' : Sto} {c : C} (h : Fr n S S') (hl : l < n) (e : S[l]? = some c) : S'[l]? = some c := (h.2 l hl).trans e
theorem set_ne {l k : Nat} {S : Sto} {c : C} {o : Option C} (h : S[l]? = o) (hk : k ≠ l) : (S.set k c)[l]? = o := by rw [List.getElem?_set_ne hk]; exact h
theorem app_at {l : Nat} {S T : Sto} {c : C} (h : S[l]? = some c) : (S ++ T)[l]? = some c := by
  rw [List.getElem?_append_left (lt_of_at h)]; exact h
/-! ### the store of a reading -/
def optStr : Option (Pa × Option Pa) → Z.D
  | none => .non
  | some (p, j) => .tup [p.D, byD j]
def rfs (r n0 : Nat) (b : Be) (x : Option (Pa × Option Pa)) : List (Str × Z.D) := [("bench", b.D), ("struck", .loc n0), ("done", .loc (n0 + 1)), ("causes", .loc (r + 1)), ("pardons", .loc (r + 2)), ("words", .loc (r + 3)), ("lost", .loc (r + 4)), ("strike", optStr x)]
def caD (ℓ : Int → Nat) (cs : List (Int × Ca)) : List (Key × Z.D) := cs.map fun x => (.inl x.1, .loc (ℓ x.1))
def pairI (x : Int × Int) : Z.D := .tup [.int x.1, .int x.2]
def tripI (x : Int × Int × Int) : Z.D := .tup [.int x.1, .int x.2.1, .int x.2.2]
structure Rep (S : Sto) (r n0 : Nat) (ℓ : Int → Nat) (b : Be) (sk : List (Pa × Pa)) (dn : List Pa) (st : St) : Prop where
  me : S[r]? = some (.ins "Reading" (rfs r n0 b st.strike))
  lt : n0 + 1 < r
  sk : S[n0]? = some (.dT false (struckD sk))
  dn : S[n0 + 1]? = some (.lst (dn.map Pa.D))
  ca : S[r + 1]? = some (.dK false (caD ℓ st.causes))
  pa : S[r + 2]? = some (.lst (st.pardons.map pairI))
  wo : S[r + 3]? = some (.lst (st.words.map .str))
  lo : S[r + 4]? = some (.lst (st.lost.map tripI))
  ce : ∀ x ∈ st.causes, S[ℓ x.1]? = some x.2.cell ∧ r + 4 < ℓ x.1
  inj : ∀ x ∈ st.causes, ∀ y ∈ st.causes, ℓ x.1 = ℓ y.1 → x.1 = y.1
  nd : (st.causes.map (·.1)).Nodup
variable {S : Sto} {r n0 : Nat} {ℓ : Int → Nat} {b : Be} {sk : List (Pa × Pa)} {dn : List Pa} {st : St}
theorem caD_set (n : Int) (c : Ca) (cs : List (Int × Ca)) : caD ℓ (setC cs n c) = caD ℓ cs := by
  unfold caD setC
  rw [List.map_map]
  apply List.map_congr_left
  intro x _
  simp only [Function.comp]
  split <;> rfl
theorem keys_set (n : Int) (c : Ca) (cs : List (Int × Ca)) : (setC cs n c).map (·.1) = cs.map (·.1) := by
  unfold setC
  rw [List.map_map]
  apply List.map_congr_left
  intro x _
  simp only [Function.comp]
  split <;> rfl
theorem Rep.cause (R : Rep S r n0 ℓ b sk dn st) {n : Int} {c : Ca} (h : valG st.causes n = some c) : S[ℓ n]? = some c.cell ∧ r + 4 < ℓ n := R.ce (n, c) (valG_mem h)
theorem mem_set {cs : List (Int × Ca)} {n : Int} {c : Ca} {x : Int × Ca} (h : x ∈ setC cs n c) : (x.1 = n ∧ x.2 = c ∧ ∃ c0, (n, c0) ∈ cs) ∨ (x.1 ≠ n ∧ x ∈ cs) := by
  obtain ⟨y, hy, rfl⟩ := List.mem_map.mp h
  by_cases e : y.1 = n
  · simp only [e, if_true]
    exact .inl ⟨by simp, by simp, y.2, by rw [← e]; exact hy⟩
  · simp only [e, if_false]
    exact .inr ⟨e, hy⟩
theorem Rep.set (R : Rep S r n0 ℓ b sk dn st) {n : Int} {c c' : Ca} (h : valG st.causes n = some c) : Rep (S.set (ℓ n) c'.cell) r n0 ℓ b sk dn (st.setC n c') := by
  have hc := R.cause h
  have hlt := R.lt
  have hm := valG_mem h
  exact {
    me := set_ne R.me (by omega)
    lt := R.lt
    sk := set_ne R.sk (by omega)
    dn := set_ne R.dn (by omega)
    ca := by
      show _ = some (C.dK false (caD ℓ (setC st.causes n c')))
      rw [caD_set]; exact set_ne R.ca (by omega)
    pa := set_ne R.pa (by omega)
    wo := set_ne R.wo (by omega)
    lo := set_ne R.lo (by omega)
    ce := fun x hx => by
      rcases mem_set hx with ⟨e1, e2, _⟩ | ⟨e1, e2⟩
      · rw [e1, e2]; exact ⟨at_set hc.1, hc.2⟩
      · exact ⟨set_ne (R.ce x e2).1 (fun e => e1 (R.inj x e2 (n, c) hm e.symm)), (R.ce x e2).2⟩
    inj := fun x hx y hy e => by
      rcases mem_set hx with ⟨e1, _, c1, hc1⟩ | ⟨e1, e2⟩ <;> rcases mem_set hy with ⟨g1, _, c2, hc2⟩ | ⟨g1, g2⟩
      · rw [e1, g1]
      · rw [e1] at e ⊢; exact R.inj _ hc1 y g2 e
      · rw [g1] at e ⊢; exact R.inj x e2 _ hc2 e
      · exact R.inj x e2 y g2 e
    nd := by show ((setC st.causes n c').map (·.1)).Nodup; rw [keys_set]; exact R.nd }
theorem Rep.words (R : Rep S r n0 ℓ b sk dn st) (w : Str) : Rep (S.set (r + 3) (.lst (st.words.map .str ++ [.str w]))) r n0 ℓ b sk dn { st with words := st.words ++ [w] } := by
  have hlt := R.lt
  exact {
    me := set_ne R.me (by omega)
    lt := R.lt
    sk := set_ne R.sk (by omega)
    dn := set_ne R.dn (by omega)
    ca := set_ne R.ca (by omega)
    pa := set_ne R.pa (by omega)
    wo := by rw [at_set R.wo]; simp
    lo := set_ne R.lo (by omega)
    ce := fun x hx => ⟨set_ne (R.ce x hx).1 (by have := (R.ce x hx).2; omega), (R.ce x hx).2⟩
    inj := R.inj
    nd := R.nd }
theorem Rep.lost (R : Rep S r n0 ℓ b sk dn st) (w : Int × Int × Int) : Rep (S.set (r + 4) (.lst (st.lost.map tripI ++ [tripI w]))) r n0 ℓ b sk dn { st with lost := st.lost ++ [w] } := by
  have hlt := R.lt
  exact {
    me := set_ne R.me (by omega)
    lt := R.lt
    sk := set_ne R.sk (by omega)
    dn := set_ne R.dn (by omega)
    ca := set_ne R.ca (by omega)
    pa := set_ne R.pa (by omega)
    wo := set_ne R.wo (by omega)
    lo := by rw [at_set R.lo]; simp
    ce := fun x hx => ⟨set_ne (R.ce x hx).1 (by have := (R.ce x hx).2; omega), (R.ce x hx).2⟩
    inj := R.inj
    nd := R.nd }
end Sp

/-! SpE: what a reading's methods do, one by one. -/
namespace Sp
open PySem L2 Z
section
variable {r n0 : Nat} {b : Be} {x : Option (Pa × Option Pa)}
end
theorem plain_strs : ∀ xs : List Str, PyData.plainAll (xs.map PyData.str) = true
  | [] => rfl
  | x :: xs => by simp [PyData.plainAll, PyData.plain, plain_strs xs]
theorem hz : sizeLine = 16777216 := rfl
variable [Rz]
variable {S : Sto} {r n0 : Nat} {ℓ : Int → Nat} {b : Be} {sk : List (Pa × Pa)} {dn : List Pa} {st : St} {c : Ca}
omit [Rz] in
theorem b0 {S : Sto} : dIxA b.D (.int 0) S = .ok (.tup (b.ts.map tsD)) S := rfl
omit [Rz] in
theorem b1 {S : Sto} : dIxA b.D (.int 1) S = .ok (.int b.hold) S := rfl
omit [Rz] in
theorem b2 {S : Sto} : dIxA b.D (.int 2) S = .ok (.int b.puts) S := rfl
omit [Rz] in
theorem b3 {S : Sto} : dIxA b.D (.int 3) S = .ok (.int b.pledges) S := rfl
omit [Rz] in
theorem t0 {S : Sto} {t : Int × Int × Int} : dIxA (tsD t) (.int 0) S = .ok (.int t.1) S := rfl
omit [Rz] in
theorem t1 {S : Sto} {t : Int × Int × Int} : dIxA (tsD t) (.int 1) S = .ok (.int t.2.1) S := rfl
omit [Rz] in
theorem t2 {S : Sto} {t : Int × Int × Int} : dIxA (tsD t) (.int 2) S = .ok (.int t.2.2) S := rfl
theorem locked {r1 : Nat} {x : C} (h : S[r1]? = some x) {c0 : C} {l : Nat} (hl : S[l]? = some c0) (hn : r1 ≠ l) (y : C) : (S.set r1 y)[l]? = some c0 := set_ne hl hn
end Sp

/-! SpF: charge, pardon, aside. -/
namespace Sp
open PySem L2 Z
variable [Rz]
variable {S : Sto} {r n0 : Nat} {ℓ : Int → Nat} {b : Be} {sk : List (Pa × Pa)} {dn : List Pa} {st : St} {c : Ca}
/-- the call tells the word and makes the state -/
def Does (o : R Z.D) (S : Sto) (r n0 : Nat) (b : Be) (sk : List (Pa × Pa)) (dn : List Pa) (x : Str × St) : Prop :=
  wpR o fun d S' => d = .str x.1 ∧ Fr r S S' ∧ ∃ ℓ', Rep S' r n0 ℓ' b sk dn x.2
theorem Does.same (R : Rep S r n0 ℓ b sk dn st) {w : Str} {d : Z.D} (e : d = .str w) : d = .str (w, st).1 ∧ Fr r S S ∧ ∃ ℓ', Rep S r n0 ℓ' b sk dn (w, st).2 := ⟨e, Fr.refl _ _, ℓ, R⟩
theorem app_list {S : Sto} {l : Nat} {ds : List Z.D} {y : Z.D} (h : S[l]? = some (.lst ds)) (hn : ds.length < 16777216) : dAppend (.loc l) [y] S = .ok .non (S.set l (.lst (ds ++ [y]))) := by
  have hn : ds.length < sizeLine := hn
  simp [dAppend, h, hn]
theorem isTy_list {S : Sto} {l : Nat} {ds : List Z.D} (h : S[l]? = some (.lst ds)) : isTy "list" (.loc l) S = true := by simp [isTy, h]
end Sp

/-! SpG: aside, hold, pledge, move. -/
namespace Sp
open PySem L2 Z
variable [Rz]
variable {S : Sto} {r n0 : Nat} {ℓ : Int → Nat} {b : Be} {sk : List (Pa × Pa)} {dn : List Pa} {st : St} {c : Ca}
theorem same (R : Rep S r n0 ℓ b sk dn st) : Fr r S S ∧ ∃ ℓ', Rep S r n0 ℓ' b sk dn st := ⟨Fr.refl _ _, _, R⟩
end Sp

/-! SpH: what the bench does. -/
namespace Sp
open PySem L2 Z
variable [Rz]
variable {S : Sto} {r n0 : Nat} {ℓ : Int → Nat} {b : Be} {sk : List (Pa × Pa)} {dn : List Pa} {st : St} {c : Ca}
end Sp

/-! SpI: by_bench and read. -/
namespace Sp
open PySem L2 Z
theorem cut_fr2 {a b : Z.D} {r : List Z.D} : cutD (a :: b :: r) (some 2) none = r := by
  unfold cutD
  have e1 : HT.sIx (a :: b :: r).length 0 (some 2) = min 2 _ := HT.sIx_nat _ _ 2
  have e2 : HT.sIx (a :: b :: r).length (a :: b :: r).length none = (a :: b :: r).length := rfl
  rw [e1, e2]
  have : min 2 (a :: b :: r).length = 2 := by simp only [List.length_cons]; omega
  rw [this]
  simp
variable [Rz]
variable {S : Sto} {r n0 : Nat} {ℓ : Int → Nat} {b : Be} {sk : List (Pa × Pa)} {dn : List Pa} {st : St} {c : Ca}
end Sp

/-! SpJ: read. -/
namespace Sp
open PySem L2 Z
variable [Rz]
variable {S : Sto} {r n0 : Nat} {ℓ : Int → Nat} {b : Be} {sk : List (Pa × Pa)} {dn : List Pa} {st : St} {c : Ca}
end Sp

/-! SpK: what stays true as papers are read. -/
namespace Sp
open PySem L2 Z
structure OkC (b : Be) (D n : Int) (c : Ca) : Prop where
  sp : 0 ≤ c.spent ∧ c.spent ≤ b.hold
  pl : (c.past.length : Int) = c.spent
  pd : ∀ x ∈ c.past, 0 ≤ x ∧ x < D
  so : c.past.Pairwise (· < ·)
  si : ∀ s, c.since = some s → 0 ≤ s ∧ s ≤ D ∧ (∀ x ∈ c.past, x < s) ∧ c.pledger = none
  cl : c.word.isOpen = false → c.since = none ∧ c.pledger = none
  jd : c.word.judged = true → ∃ d g, c.byp = some (.judge d n g) ∧ d ≤ D
  n0 : 0 ≤ n ∧ n ≤ 5
  n1 : 0 ≤ c.person ∧ c.person ≤ 5
  n2 : 0 ≤ c.deed ∧ c.deed ≤ 3
  n3 : 0 ≤ c.town ∧ c.town ≤ 3
  n4 : -1 ≤ c.till ∧ c.till ≤ 60
  n5 : ∀ q, c.pledger = some q → 0 ≤ q ∧ q ≤ 5
  n6 : 0 ≤ c.puts ∧ c.puts ≤ b.puts
  n7 : 0 ≤ c.born ∧ c.born ≤ D
theorem OkC.mono {b : Be} {D D' n : Int} {c : Ca} (h : OkC b D n c) (hD : D ≤ D') : OkC b D' n c :=
  { h with
    pd := fun x hx => ⟨(h.pd x hx).1, by have := (h.pd x hx).2; omega⟩
    si := fun s hs => ⟨(h.si s hs).1, by have := (h.si s hs).2.1; omega, (h.si s hs).2.2⟩
    jd := fun hj => by obtain ⟨d, g, e, hd⟩ := h.jd hj; exact ⟨d, g, e, by omega⟩
    n7 := by have := h.n7; omega }
section
variable {b : Be} {D n d : Int} {c : Ca}
end
def okW (w : Str) : Prop := w ∈ (["struck", "again", "judged", "pardoned", "takes", "unknown", "unjudged", "closed", "pledged", "held", "spent", "free", "self", "full", "there", "away", "bare", "over", "worn"] : List Str)
structure OkS (b : Be) (D : Int) (k : Nat) (st : St) : Prop where
  cs : ∀ x ∈ st.causes, OkC b D x.1 x.2
  nd : (st.causes.map (·.1)).Nodup
  l1 : st.causes.length ≤ k
  l2 : st.pardons.length ≤ k
  l3 : st.words.length ≤ k
  l4 : st.lost.length ≤ k
  pa : ∀ x ∈ st.pardons, (0 ≤ x.1 ∧ x.1 ≤ 5) ∧ 0 ≤ x.2 ∧ x.2 ≤ 3
  lo : ∀ x ∈ st.lost, (0 ≤ x.1 ∧ x.1 ≤ 60) ∧ (0 ≤ x.2.1 ∧ x.2.1 ≤ 5) ∧ 0 ≤ x.2.2 ∧ x.2.2 ≤ 5
  wo : ∀ x ∈ st.words, okW x
theorem OkS.mono {b : Be} {D D' : Int} {k k' : Nat} {st : St} (h : OkS b D k st) (hD : D ≤ D') (hk : k ≤ k') : OkS b D' k' st :=
  { h with
    cs := fun x hx => (h.cs x hx).mono hD
    l1 := Nat.le_trans h.l1 hk, l2 := Nat.le_trans h.l2 hk, l3 := Nat.le_trans h.l3 hk, l4 := Nat.le_trans h.l4 hk }
section
variable {b : Be} {D : Int} {k : Nat} {st : St} {n d : Int} {c c' : Ca}
end
section
variable {b : Be} {D : Int} {k : Nat} {st : St} {n d : Int} {c c' : Ca}
end
end Sp

/-! SpL: a pass, the whole reading: what stays true. -/
namespace Sp
open PySem L2 Z
section
variable {b : Be} {sk : List (Pa × Pa)} {dn : List Pa} {D : Int} {k : Nat} {st : St} {p : Pa}
end
/-- a roll in order -/
structure Rl (ps : List Pa) : Prop where
  ok : ∀ p ∈ ps, okP p
  so : ps.Pairwise fun a b => a.day ≤ b.day
  ln : ps.length ≤ 24
theorem Rl.sub {ps qs : List Pa} (h : Rl ps) (s : qs.Sublist ps) : Rl qs := ⟨fun p hp => h.ok p (s.subset hp), h.so.sublist s, Nat.le_trans s.length_le h.ln⟩
end Sp

/-! SpM: read_by on the store. -/
namespace Sp
open PySem L2 Z
variable [Rz]
variable {S : Sto} {r n0 : Nat} {ℓ : Int → Nat} {b : Be} {sk : List (Pa × Pa)} {dn : List Pa} {st : St} {c : Ca}
end Sp

/-! SrA: benches known. -/
namespace Sp
open PySem L2 Z
variable [Rz]
theorem within_ok {d : D} (h : Has d) (lo hi : Int) (S : Sto) : Pg.m_is_within [d, .int lo, .int hi] S = .ok (.bl (num d lo hi)) S := by
  obtain ⟨p, h⟩ := h
  refine wp_eq ?_
  unfold Pg.m_is_within
  simp [isa_int h, isa_bool h]
  cases d <;> simp [isIntD, isBlD, num]
  rename_i i
  by_cases q : lo ≤ i <;> simp [q] <;> omega
theorem upto_ok {d : D} (h : Has d) (n : Int) (S : Sto) : Pg.m_is_upto [d, .int n] S = .ok (.bl (num d 0 (n - 1))) S := by
  refine wp_eq ?_
  unfold Pg.m_is_upto
  simp [within_ok h]
end Sp

/-! SrB: papers and rolls known. -/
namespace Sp
open PySem L2 Z
def forms : List (Str × List Int) := [("charge", [6, 6, 4, 4]), ("bill", [6, 2]), ("hold", [6]), ("pledge", [6, 6]), ("miss", [6]), ("over", [6]), ("move", [6, 4]), ("judge", [6, 2]), ("pardon", [6, 4]), ("aside", [6])]
def formD (ms : List Int) : Z.D := .ktup (ms.map .int)
theorem kd_eq : Pg.kd_FORMS = forms.map fun x => (x.1, formD x.2) := rfl
theorem valG_snd {κ α β : Type} [DecidableEq κ] (g : α → β) (k : κ) : ∀ kvs : List (κ × α), valG (kvs.map fun x => (x.1, g x.2)) k = (valG kvs k).map g
  | [] => rfl
  | p :: r => by
    rw [List.map_cons, valG_cons, valG_cons, valG_snd g k r]
    split <;> simp_all
def fits (r : List Z.D) (ms : List Int) : Bool := (r.zip ms).all fun y => num y.1 0 (y.2 - 1)
def isPa (d : Z.D) : Bool := match d with
  | .tup (x :: .str w :: r) => (match valG forms w with
    | some ms => decide (r.length = ms.length) && num x 0 60 && fits r ms
    | none => false)
  | _ => false
theorem cut_fr1 {a : Z.D} {r : List Z.D} : cutD (a :: r) (some 1) none = r := by
  unfold cutD
  have e1 : HT.sIx (a :: r).length 0 (some 1) = min 1 _ := HT.sIx_nat _ _ 1
  have e2 : HT.sIx (a :: r).length (a :: r).length none = (a :: r).length := rfl
  rw [e1, e2]
  have : min 1 (a :: r).length = 1 := by simp only [List.length_cons]; omega
  rw [this]
  simp
theorem x_lenK (ds : List Z.D) (S : Sto) : dLen [.ktup ds] S = .ok (.int ds.length) S := by rfl
def isStrB : Z.D → Bool
  | .str _ => true
  | _ => false
theorem isa_str {d : Z.D} {p : PyData} {S : Sto} (h : toPyD d = some p) : dIsa [d, .ob (.ty "str")] S = .ok (.bl (isStrB d)) S := by
  show (match toPy d S with | some p => _ | none => _) = _
  rw [toPy_of h]
  cases d <;> simp only [toPyD, Option.some.injEq, Option.map_eq_some_iff, reduceCtorEq] at h <;> first | (subst h; rfl) | (obtain ⟨_, _, rfl⟩ := h; rfl)
theorem zip_ints : ∀ (r : List Z.D) (ms : List Int), List.zipWith (fun a b => Z.D.tup [a, b]) r (ms.map Z.D.int) = (r.zip ms).map fun y => .tup [y.1, .int y.2]
  | [], ms => by simp
  | x :: r, [] => by simp
  | x :: r, m :: ms => by simp [zip_ints r ms]
theorem zip_mem1 {α β : Type} {x : α × β} : ∀ {r : List α} {ms : List β}, x ∈ r.zip ms → x.1 ∈ r ∧ x.2 ∈ ms
  | [], _, h => by simp at h
  | a :: r, [], h => by simp at h
  | a :: r, m :: ms, h => by
    rw [List.zip_cons_cons, List.mem_cons] at h
    rcases h with rfl | h
    · exact ⟨by simp, by simp⟩
    · have := zip_mem1 h; exact ⟨by simp [this.1], by simp [this.2]⟩
theorem all_src {α : Type} (f : α → Bool) (as : List α) (S : Sto) : dAll [.lst (as.map fun d => Z.D.bl (f d))] S = .ok (.bl (as.all f)) S := by
  have : ∀ as : List α, boolsOf (as.map fun d => Z.D.bl (f d)) = some (as.map f) := fun as => by
    induction as with
    | nil => rfl
    | cons d ds ih => simp [boolsOf, ih]
  simp [dAll, listR, this]
theorem forms_len {w : Str} {ms : List Int} (h : valG forms w = some ms) : ms.length ≤ 4 := by
  have := valG_mem h
  simp only [forms, List.mem_cons, Prod.mk.injEq, List.not_mem_nil, or_false] at this
  rcases this with h | h | h | h | h | h | h | h | h | h <;> rw [h.2] <;> decide
variable [Rz]
theorem paper_ok {d : Z.D} (h : Has d) (S : Sto) : Pg.m_is_paper [d] S = .ok (.bl (isPa d)) S := by
  obtain ⟨p, hp⟩ := h
  refine wp_eq ?_
  unfold Pg.m_is_paper
  simp [isa_tup hp]
  cases d
  case tup ds =>
    simp only [isTupD]
    have hh := has_tup ⟨p, hp⟩
    match ds, hh with
    | [], _ => simp [isPa]
    | [x], _ => simp [isPa]
    | x :: y :: r, hh =>
      obtain ⟨py, hy⟩ := hh y (by simp)
      have hx := hh x (by simp)
      have z2 : ¬ ((r.length : Int) + 1 + 1 < 2) := by omega
      simp [at0, at1, isa_str hy, z2]
      cases y
      case str w =>
        simp [isStrB, kd_eq, valG_snd, isPa]
        cases e : valG forms w with
        | none => simp [dIsN, Z.isNon]
        | some ms =>
          have h4 := forms_len e
          by_cases q : r.length = ms.length
          · have q1 : (r.length : Int) + 1 + 1 = 2 + ms.length := by omega
            have q2 : (ms.length : Int) + 1 + 1 = 2 + ms.length := by omega
            cases q3 : num x 0 60 with
            | false => simp [dIsN, Z.isNon, formD, x_lenK, q, q2, upto_ok hx, q3]
            | true =>
              have ez : ∀ S, zipA [.tup (cutD (x :: .str w :: r) (some 2) none), .ktup (ms.map Z.D.int)] S = some ⟨(r.zip ms).map fun y => .tup [y.1, .int y.2], []⟩ := fun S => by
                rw [cut_fr2, ← zip_ints]; rfl
              have el : lcL [] (.tp [2, 3]) [2, 3] tYesM (mCall Pg.m_is_upto (aCons (mVar 2) (aCons (mVar 3) aNil))) ((r.zip ms).map fun y => .tup [y.1, .int y.2]) [some (.tup (x :: .str w :: r)), some (.ktup (ms.map Z.D.int)), none, none] S = .ok (((r.zip ms).filter fun _ => true).map fun y => .bl (num y.1 0 (y.2 - 1))) S :=
                lc_src (keep_nil S) (fun _ => true) (fun y : Z.D × Int => .bl (num y.1 0 (y.2 - 1))) _ fun y hy => ⟨_, rfl, rfl, fun _ => by
                  have hu : Has y.1 := hh y.1 (by simp [(zip_mem1 hy).1])
                  simp [wipeT, upto_ok hu]⟩
              have hf : ((r.zip ms).filter fun _ => true) = r.zip ms := by simp
              rw [hf] at el
              have hl : ((r.zip ms).map fun y : Z.D × Int => Z.D.tup [y.1, .int y.2]).length ≤ 16777216 := by simp; omega
              have ea := all_src (fun y : Z.D × Int => num y.1 0 (y.2 - 1)) (r.zip ms) S
              have efit : fits r ms = (r.zip ms).all fun y => num y.1 0 (y.2 - 1) := rfl
              rw [← efit] at ea
              generalize ((r.zip ms).map fun y : Z.D × Int => Z.D.tup [y.1, .int y.2]) = zs at *
              simp [dIsN, Z.isNon, formD, x_lenK, q, q2, upto_ok hx, q3, ez, hz, el, hl, ea]
          · have q1 : ¬ (r.length : Int) + 1 + 1 = 2 + ms.length := by omega
            simp [dIsN, Z.isNon, formD, x_lenK, q, q1]
      all_goals simp [isStrB, isPa]
  all_goals simp [isTupD, isPa]
end Sp

/-! SwA: texts of numbers, of papers. -/
namespace Sp
open PySem L2 Z
/-- a number written -/
def numT (n : Int) : Str := Str.ofString (toString n)
def figs : Str := "0123456789"
/-- a word that writes a number -/
def numB (w : Str) : Bool := decide (1 ≤ w.length) && decide (w.length ≤ 2) && (w.cps.toList.all fun c => decide (c ∈ figs.cps.toList)) && !(decide (w.length = 2) && decide (w.cps.toList.head? = some 48))
def numV (w : Str) : Int := (PySem.intText? w).getD 0
def numD (w : Str) : Z.D := if numB w then .int (numV w) else .non
theorem num_all : ((List.range 61).all fun n => numB (numT n) && decide (numV (numT n) = (n : Int)) && decide ((numT n).length ≤ 2) && (numT n).cps.toList.all fun c => decide (48 ≤ c) && decide (c ≤ 57)) = true := by decide +kernel
theorem num_ok {n : Int} (h0 : 0 ≤ n) (h1 : n ≤ 60) : numB (numT n) = true ∧ numV (numT n) = n ∧ (numT n).length ≤ 2 ∧ ∀ c ∈ (numT n).cps.toList, 48 ≤ c ∧ c ≤ 57 := by
  obtain ⟨m, rfl⟩ := Int.eq_ofNat_of_zero_le h0
  have := List.all_eq_true.mp num_all m (by simp; omega)
  simp only [Bool.and_eq_true, decide_eq_true_eq, List.all_eq_true] at this
  exact ⟨this.1.1.1, this.1.1.2, this.1.2, this.2⟩
theorem int_all1 : ((List.range 10).all fun a => (PySem.intText? ⟨#[48 + a]⟩).isSome) = true := by decide +kernel
theorem int_all2 : ((List.range 10).all fun a => (List.range 10).all fun b => (PySem.intText? ⟨#[48 + a, 48 + b]⟩).isSome) = true := by decide +kernel
theorem fig_mem {c : Nat} (h : c ∈ figs.cps.toList) : ∃ a, a < 10 ∧ c = 48 + a := by
  have e : figs.cps.toList = [48, 49, 50, 51, 52, 53, 54, 55, 56, 57] := by decide +kernel
  rw [e] at h
  simp only [List.mem_cons, List.not_mem_nil, or_false] at h
  exact ⟨c - 48, by omega, by omega⟩
theorem numB_val {w : Str} (h : numB w = true) : PySem.intText? w = some (numV w) := by
  have : (PySem.intText? w).isSome = true := by
    simp only [numB, Bool.and_eq_true, decide_eq_true_eq, List.all_eq_true] at h
    obtain ⟨⟨⟨h1, h2⟩, h3⟩, -⟩ := h
    obtain ⟨⟨l⟩⟩ := w
    simp only [Str.length, List.size_toArray] at h1 h2
    match l, h1, h2, h3 with
    | [c], _, _, h3 =>
      obtain ⟨a, ha, rfl⟩ := fig_mem (h3 c (by simp))
      exact List.all_eq_true.mp int_all1 a (by simp; omega)
    | [c, d], _, _, h3 =>
      obtain ⟨a, ha, rfl⟩ := fig_mem (h3 c (by simp))
      obtain ⟨b, hb, rfl⟩ := fig_mem (h3 d (by simp))
      exact List.all_eq_true.mp (List.all_eq_true.mp int_all2 a (by simp; omega)) b (by simp; omega)
  unfold numV
  cases e : PySem.intText? w with
  | none => rw [e] at this; cases this
  | some n => rfl
theorem numB_len {w : Str} (h : numB w = true) : w.length ≤ 2 := by
  simp only [numB, Bool.and_eq_true, decide_eq_true_eq, List.all_eq_true] at h
  exact h.1.1.2
/-! ### joined -/
def spc : Str := " "
def semi : Str := "; "
theorem str_len_app (a b : Str) : (a ++ b).length = a.length + b.length := by
  rw [TL.len_tl, TL.len_tl, TL.len_tl, TL.tl_append, List.length_append]
theorem joinL_len (s : List Nat) : ∀ ps : List (List Nat), (TL.joinL s ps).length ≤ (ps.map List.length).sum + ps.length * s.length
  | [] => by simp [TL.joinL]
  | [p] => by simp [TL.joinL]
  | p :: q :: r => by
    have ih := joinL_len s (q :: r)
    simp only [TL.joinL, List.length_append, List.map_cons, List.sum_cons, List.length_cons] at ih ⊢
    simp only [Nat.add_mul] at ih ⊢
    omega
theorem join_len (s : Str) (ps : List Str) : (Str.join s ps).length ≤ (ps.map (·.length)).sum + ps.length * s.length := by
  have := joinL_len (TL.tl s) (ps.map TL.tl)
  rw [← TL.tl_join, ← TL.len_tl, ← TL.len_tl, List.map_map, List.length_map] at this
  have e : ps.map (List.length ∘ TL.tl) = ps.map (·.length) := List.map_congr_left fun p _ => (TL.len_tl p).symm
  rw [e] at this
  exact this
end Sp

/-! SrC: rolls, in order. -/
namespace Sp
open PySem L2 Z
/-! ### papers by their look -/
theorem num_i {i lo hi : Int} : num (.int i) lo hi = decide (lo ≤ i ∧ i ≤ hi) := by simp [num]
theorem isPa_of {p : Pa} (h : okP p) : isPa p.D = true := by
  cases p <;> simp only [okP] at h <;> simp [Pa.D, Pa.row, rowD, keyD, isPa, forms, valG, ofString_inj, fits, num_i] <;> omega
theorem fits_int {r : List Z.D} {ms : List Int} (h : fits r ms = true) (hl : r.length = ms.length) : ∃ is : List Int, r = is.map .int ∧ is.length = ms.length ∧ ∀ y ∈ is.zip ms, 0 ≤ y.1 ∧ y.1 ≤ y.2 - 1 := by
  induction r generalizing ms with
  | nil => exact ⟨[], rfl, hl, fun y hy => by simp at hy⟩
  | cons x r ih =>
    cases ms with
    | nil => simp at hl
    | cons m ms =>
      simp only [fits, List.zip_cons_cons, List.all_cons, Bool.and_eq_true] at h
      obtain ⟨i, rfl, h1, h2⟩ := num_int h.1
      obtain ⟨is, rfl, h3, h4⟩ := ih (ms := ms) h.2 (by simpa using hl)
      refine ⟨i :: is, rfl, by simp [h3], fun y hy => ?_⟩
      rw [List.zip_cons_cons, List.mem_cons] at hy
      rcases hy with rfl | hy
      · exact ⟨h1, h2⟩
      · exact h4 y hy
theorem pa_of {d : Z.D} (h : isPa d = true) : ∃ p, okP p ∧ d = p.D := by
  unfold isPa at h
  split at h
  · rename_i x w r
    split at h
    · rename_i ms e
      simp only [Bool.and_eq_true, decide_eq_true_eq] at h
      obtain ⟨⟨h1, h2⟩, h3⟩ := h
      obtain ⟨d, rfl, hd1, hd2⟩ := num_int h2
      obtain ⟨is, rfl, h5, h6⟩ := fits_int h3 h1
      have hm := valG_mem e
      simp only [forms, List.mem_cons, Prod.mk.injEq, List.not_mem_nil, or_false] at hm
      rcases hm with ⟨rfl, rfl⟩ | ⟨rfl, rfl⟩ | ⟨rfl, rfl⟩ | ⟨rfl, rfl⟩ | ⟨rfl, rfl⟩ | ⟨rfl, rfl⟩ | ⟨rfl, rfl⟩ | ⟨rfl, rfl⟩ | ⟨rfl, rfl⟩ | ⟨rfl, rfl⟩
      · match is, h5 with
        | [a, b, c, e], _ =>
          simp at h6
          exact ⟨.charge d a b c e, by simp only [okP]; omega, rfl⟩
      · match is, h5 with
        | [a, b], _ =>
          simp at h6
          exact ⟨.bill d a b, by simp only [okP]; omega, rfl⟩
      · match is, h5 with
        | [a], _ =>
          simp at h6
          exact ⟨.hold d a, by simp only [okP]; omega, rfl⟩
      · match is, h5 with
        | [a, b], _ =>
          simp at h6
          exact ⟨.pledge d a b, by simp only [okP]; omega, rfl⟩
      · match is, h5 with
        | [a], _ =>
          simp at h6
          exact ⟨.miss d a, by simp only [okP]; omega, rfl⟩
      · match is, h5 with
        | [a], _ =>
          simp at h6
          exact ⟨.over d a, by simp only [okP]; omega, rfl⟩
      · match is, h5 with
        | [a, b], _ =>
          simp at h6
          exact ⟨.move d a b, by simp only [okP]; omega, rfl⟩
      · match is, h5 with
        | [a, b], _ =>
          simp at h6
          exact ⟨.judge d a b, by simp only [okP]; omega, rfl⟩
      · match is, h5 with
        | [a, b], _ =>
          simp at h6
          exact ⟨.pardon d a b, by simp only [okP]; omega, rfl⟩
      · match is, h5 with
        | [a], _ =>
          simp at h6
          exact ⟨.aside d a, by simp only [okP]; omega, rfl⟩
    · cases h
  · cases h
theorem all_pa : ∀ {ds : List Z.D}, (∀ d ∈ ds, isPa d = true) → ∃ ps : List Pa, ds = ps.map Pa.D ∧ ∀ p ∈ ps, okP p
  | [], _ => ⟨[], rfl, fun p hp => by cases hp⟩
  | d :: ds, h => by
    obtain ⟨p, hp, rfl⟩ := pa_of (h d (by simp))
    obtain ⟨ps, rfl, hps⟩ := all_pa (ds := ds) fun e he => h e (by simp [he])
    exact ⟨p :: ps, rfl, fun q hq => (List.mem_cons.mp hq).elim (fun e => e ▸ hp) (hps q)⟩
/-! ### the order of papers -/
def ltP (p q : Pa) : Bool := ltR p.row q.row
theorem nk_data : ∀ ks : List Key, NestedKey.datas (ks.map nk) = ks.map keyPy
  | [] => rfl
  | k :: ks => by
    simp only [List.map_cons, NestedKey.datas, nk_data ks]
    cases k <;> rfl
theorem rowK_data (ks : List Key) : (rowK ks).data = .tuple (ks.map keyPy) := by
  simp only [rowK, NestedKey.data, nk_data]
theorem alike_ints : ∀ a b : List Int, PySem.W.alikeAll (a.map PyData.int) (b.map PyData.int) = true
  | [], b => by cases b <;> simp [PySem.W.alikeAll]
  | x :: a, [] => by simp [PySem.W.alikeAll]
  | x :: a, y :: b => by simp [PySem.W.alikeAll, PySem.W.alike, alike_ints a b]
theorem row_look (p : Pa) : ∃ (w : Str) (is : List Int), p.row = .inl p.day :: .inr w :: is.map .inl := by
  cases p
  · exact ⟨_, [_, _, _, _], rfl⟩
  · exact ⟨_, [_, _], rfl⟩
  · exact ⟨_, [_], rfl⟩
  · exact ⟨_, [_, _], rfl⟩
  · exact ⟨_, [_], rfl⟩
  · exact ⟨_, [_], rfl⟩
  · exact ⟨_, [_, _], rfl⟩
  · exact ⟨_, [_, _], rfl⟩
  · exact ⟨_, [_, _], rfl⟩
  · exact ⟨_, [_], rfl⟩
theorem keyPy_ints (is : List Int) : (is.map (Sum.inl : Int → Key)).map keyPy = is.map PyData.int := by rw [List.map_map]; rfl
theorem alikeP (p q : Pa) : alikeR p.row q.row = true := by
  obtain ⟨w, is, e⟩ := row_look p
  obtain ⟨w2, js, e2⟩ := row_look q
  unfold alikeR
  rw [rowK_data, rowK_data, e, e2]
  simp only [List.map_cons, keyPy_ints, PySem.W.alike, PySem.W.alikeAll, keyPy, alike_ints, Bool.and_self]
theorem notNone_row (p : Pa) : notNone (.tuple (p.row.map keyPy)) = true := by
  cases p <;> rfl
theorem dLt_pa (p q : Pa) (S : Sto) : dLt p.D q.D S = .ok (.bl (ltP p q)) S := by
  have e1 : toPy p.D S = some (.tuple (p.row.map keyPy)) := py_rowD p.row
  have e2 : toPy q.D S = some (.tuple (q.row.map keyPy)) := py_rowD q.row
  have e3 := alikeP p q
  unfold alikeR at e3
  rw [rowK_data, rowK_data] at e3
  have e4 : ltP p q = PySem.W.dataLt (.tuple (p.row.map keyPy)) (.tuple (q.row.map keyPy)) := by
    unfold ltP ltR ltK
    rw [rowK_data, rowK_data]
  unfold dLt dDat
  rw [e1, e2, e4]
  simp [alikeB, e3, notNone_row, PyData.depth, depth_keys]
theorem ltP_trans {p q r : Pa} (h1 : ltP p q = true) (h2 : ltP q r = true) : ltP p r = true := ltK_trans h1 h2
theorem ltP_irr (p : Pa) : ltP p p = false := ltK_irr _
def adj : List Pa → Bool
  | [] => true
  | [_] => true
  | p :: q :: r => ltP p q && adj (q :: r)
theorem adj_pair : ∀ {ps : List Pa}, adj ps = true ↔ ps.Pairwise fun a b => ltP a b = true
  | [] => by simp [adj]
  | [p] => by simp [adj]
  | p :: q :: r => by
    simp only [adj, Bool.and_eq_true]
    rw [adj_pair (ps := q :: r)]
    constructor
    · rintro ⟨h1, h2⟩
      refine List.pairwise_cons.mpr ⟨fun x hx => ?_, h2⟩
      rcases List.mem_cons.mp hx with rfl | hx
      · exact h1
      · exact ltP_trans h1 ((List.pairwise_cons.mp h2).1 x hx)
    · intro h
      have h := List.pairwise_cons.mp h
      exact ⟨h.1 q (by simp), h.2⟩
theorem adj_zip : ∀ ps : List Pa, ((ps.zip ps.tail).all fun x => ltP x.1 x.2) = adj ps
  | [] => rfl
  | [p] => rfl
  | p :: q :: r => by
    have := adj_zip (q :: r)
    simp only [List.tail_cons] at this
    simp [adj, this]
/-- a roll as need_roll wants it -/
structure Ro (ps : List Pa) : Prop where
  ok : ∀ p ∈ ps, okP p
  up : ps.Pairwise fun a b => ltP a b = true
  ln : ps.length ≤ 24
theorem Ro.sub {ps qs : List Pa} (h : Ro ps) (s : qs.Sublist ps) : Ro qs := ⟨fun p hp => h.ok p (s.subset hp), h.up.sublist s, Nat.le_trans s.length_le h.ln⟩
theorem Ro.nd {ps : List Pa} (h : Ro ps) : ps.Nodup := h.up.imp fun {a b} h e => by subst e; rw [ltP_irr] at h; cases h
/-- what is_roll says -/
def isRo (d : Z.D) : Bool := match d with
  | .tup ds => decide (ds.length ≤ 24) && ds.all isPa && (List.zipWith (fun a b => Z.D.tup [a, b]) ds (cutD ds (some 1) none)).all fun x => match x with
    | .tup [a, b] => (match toPyD a, toPyD b with
      | some p, some q => PySem.W.dataLt p q
      | _, _ => false)
    | _ => false
  | _ => false
theorem zip_pa : ∀ ps qs : List Pa, List.zipWith (fun a b => Z.D.tup [a, b]) (ps.map Pa.D) (qs.map Pa.D) = (ps.zip qs).map fun x => .tup [x.1.D, x.2.D]
  | [], qs => by simp
  | p :: ps, [] => by simp
  | p :: ps, q :: qs => by simp [zip_pa ps qs]
theorem cut_tail (ds : List Z.D) : cutD ds (some 1) none = ds.tail := by
  cases ds with
  | nil => rfl
  | cons d ds => exact cut_fr1
theorem isRo_ps (ps : List Pa) : isRo (.tup (ps.map Pa.D)) = (decide (ps.length ≤ 24) && (ps.all fun p => isPa p.D) && adj ps) := by
  unfold isRo
  simp only
  rw [List.length_map, List.all_map, cut_tail, ← List.map_tail, zip_pa, List.all_map, ← adj_zip]
  congr 2
  funext x
  simp only [Function.comp]
  show (match toPyD x.1.D, toPyD x.2.D with | some p, some q => PySem.W.dataLt p q | _, _ => false) = _
  rw [show toPyD x.1.D = _ from py_rowD x.1.row, show toPyD x.2.D = _ from py_rowD x.2.row]
  unfold ltP ltR ltK
  rw [rowK_data, rowK_data]
variable [Rz]
theorem roll_ok {d : Z.D} (h : Has d) (S : Sto) : Pg.m_is_roll [d] S = .ok (.bl (isRo d)) S := by
  obtain ⟨p, hp⟩ := h
  refine wp_eq ?_
  unfold Pg.m_is_roll
  simp [isa_tup hp]
  cases d
  case tup ds =>
    simp only [isTupD]
    have hh := has_tup ⟨p, hp⟩
    have e1 : lcL [] (Tgt.nm 1) [1] tYesM (mCall Pg.m_is_paper (aCons (mVar 1) aNil)) ds [some (Z.D.tup ds), none, none] S = .ok (ds.map fun d => Z.D.bl (isPa d)) S := lc_map (fun d => .bl (isPa d)) ds fun d hd => ⟨_, rfl, by simp [wipeT, paper_ok (hh d hd)]⟩
    by_cases q1 : ds.length ≤ 24
    · have z1 : ¬ (24 : Int) < ds.length := by omega
      have z3 : ds.length ≤ 16777216 := by omega
      cases q2 : ds.all isPa with
      | false =>
        have e2 : isRo (.tup ds) = false := by simp only [isRo, q2, Bool.and_false, Bool.false_and]
        simp [z1, hz, z3, e1, all_map, q2, e2]
      | true =>
        obtain ⟨ps, rfl, hps⟩ := all_pa (ds := ds) (List.all_eq_true.mp q2)
        have e2 : isRo (.tup (ps.map Pa.D)) = adj ps := by
          rw [isRo_ps]
          rw [List.length_map] at q1
          have : (ps.all fun p => isPa p.D) = true := List.all_eq_true.mpr fun p hp => isPa_of (hps p hp)
          simp [q1, this]
        have ez : ∀ S, zipA [.tup (ps.map Pa.D), .tup (cutD (ps.map Pa.D) (some 1) none)] S = some ⟨(ps.zip ps.tail).map fun x => .tup [x.1.D, x.2.D], []⟩ := fun S => by
          rw [cut_tail, ← List.map_tail, ← zip_pa]; rfl
        have el : lcL [] (.tp [1, 2]) [1, 2] tYesM (mBin dLt (mVar 1) (mVar 2)) ((ps.zip ps.tail).map fun x => .tup [x.1.D, x.2.D]) [some (.tup (ps.map Pa.D)), none, none] S = .ok (((ps.zip ps.tail).filter fun _ => true).map fun x => .bl (ltP x.1 x.2)) S :=
          lc_src (keep_nil S) (fun _ => true) (fun x : Pa × Pa => .bl (ltP x.1 x.2)) _ fun x hx => ⟨_, rfl, rfl, fun _ => by simp [wipeT, -List.map_cons]; exact dLt_pa _ _ _⟩
        have hf : ((ps.zip ps.tail).filter fun _ => true) = ps.zip ps.tail := by simp
        rw [hf] at el
        have ea := all_src (fun x : Pa × Pa => ltP x.1 x.2) (ps.zip ps.tail) S
        rw [adj_zip] at ea
        have hl : ((ps.zip ps.tail).map fun x : Pa × Pa => Z.D.tup [x.1.D, x.2.D]).length ≤ 16777216 := by
          rw [List.length_map] at q1
          simp; omega
        generalize ((ps.zip ps.tail).map fun x : Pa × Pa => Z.D.tup [x.1.D, x.2.D]) = zs at *
        have q3 := all_map isPa (ps.map Pa.D) S
        rw [q2] at q3
        generalize ps.map Pa.D = ds at *
        simp [z1, hz, z3, e1, q3, ez, el, hl, ea, e2]
    · have z1 : (24 : Int) < ds.length := by omega
      have e2 : isRo (.tup ds) = false := by simp [isRo, q1]
      simp [z1, e2]
  all_goals simp [isTupD, isRo]
end Sp

/-! SrD: benches by their look; the doors, where all is right. -/
namespace Sp
open PySem L2 Z
variable [Rz]
theorem has_ps (ps : List Pa) : Has (.tup (ps.map Pa.D)) := ⟨.tuple ((ps.map Pa.row).map fun k => .tuple (k.map keyPy)), by rw [map_D]; simp only [toPyD, py_rows, Option.map_some]⟩
variable {b : Be} {ps : List Pa}
end Sp

/-! SrE: papers up to a day, standings, tables. -/
namespace Sp
open PySem L2 Z
variable [Rz]
variable {S S' : Sto} {b : Be} {ps : List Pa} {st : St} {r m : Nat}
/-- a reading lies at r, all of its cells from m on -/
def Rd (S : Sto) (m r : Nat) (b : Be) (st : St) : Prop := ∃ n0 ℓ sk dn, m ≤ n0 ∧ Rep S r n0 ℓ b sk dn st
theorem Rep.keep {n0 : Nat} {ℓ : Int → Nat} {sk : List (Pa × Pa)} {dn : List Pa} (R : Rep S r n0 ℓ b sk dn st) (h : ∀ i, n0 ≤ i → i < S.length → S'[i]? = S[i]?) : Rep S' r n0 ℓ b sk dn st := by
  have hl := R.lt
  have g : ∀ {i : Nat} {c : C}, n0 ≤ i → S[i]? = some c → S'[i]? = some c := fun hi e => (h _ hi (lt_of_at e)).trans e
  exact ⟨g (by omega) R.me, R.lt, g (by omega) R.sk, g (by omega) R.dn, g (by omega) R.ca, g (by omega) R.pa, g (by omega) R.wo, g (by omega) R.lo, fun x hx => ⟨g (by have := (R.ce x hx).2; omega) (R.ce x hx).1, (R.ce x hx).2⟩, R.inj, R.nd⟩
theorem Rd.keep (R : Rd S m r b st) (h : ∀ i, m ≤ i → i < S.length → S'[i]? = S[i]?) : Rd S' m r b st := by
  obtain ⟨n0, ℓ, sk, dn, h1, h2⟩ := R
  exact ⟨n0, ℓ, sk, dn, h1, h2.keep fun i hi hl => h i (by omega) hl⟩
theorem Rd.fr (R : Rd S m r b st) (h : Fr S.length S S') : Rd S' m r b st := R.keep fun i _ hl => h.2 i hl
/-- how a cause stands -/
def stand (b : Be) (st : St) (n d : Int) : Option (Wd × Int × Int × Int × Int × Option Int) := (valG st.causes n).map fun c => (c.word, c.person, c.deed, c.town, (if c.isHeld b.hold d then 1 else 0), c.pledger)
end Sp

/-! SrF: the readings of all days; the whole table. -/
namespace Sp
open PySem L2 Z
/-! ### loops over a range -/
section
variable {g : Tgt} {body : MS} {N : Tau → Sto → Prop} {T : Z.D → Sto → Prop}
theorem for_rng (n : Nat) (Inv : Nat → Tau → Sto → Prop) (step : ∀ k τ S, k < n → Inv k τ S → ∃ τ1, bindT g (.int k) τ = some τ1 ∧ wpS (body τ1 S) (fun τ2 S2 => Inv (k + 1) τ2 S2) T) (fin : ∀ τ S, Inv n τ S → N τ S) (τ : Tau) (S : Sto) (h : Inv 0 τ S) :
    wpS (forL [] g body ((List.range n).map fun i : Nat => .int (i : Int)) τ S) N T := by
  refine for_src (fun qs τ S => ∃ k, qs = List.range' k (n - k) ∧ k ≤ n ∧ Inv k τ S) (fun _ _ S _ => keep_nil S) ?_ ?_ (List.range n) τ S ⟨0, by rw [List.range_eq_range', Nat.sub_zero], Nat.zero_le _, h⟩
  · rintro a as τ S ⟨k, e, hk, hi⟩
    have hk2 : k < n := by
      rcases Nat.lt_or_ge k n with h | h
      · exact h
      · rw [show n - k = 0 by omega] at e; cases e
    rw [show n - k = (n - (k + 1)) + 1 by omega, List.range'_succ] at e
    simp only [List.cons.injEq] at e
    obtain ⟨ea, eas⟩ := e
    obtain ⟨τ1, e1, w⟩ := step k τ S hk2 hi
    rw [ea, eas]
    exact ⟨τ1, e1, wpS_imp w (fun τ2 S2 h2 => ⟨k + 1, rfl, by omega, h2⟩) fun _ _ h => h⟩
  · rintro τ S ⟨k, e, hk, hi⟩
    have : k = n := by
      rcases Nat.lt_or_ge k n with h | h
      · rw [show n - k = (n - (k + 1)) + 1 by omega, List.range'_succ] at e; cases e
      · omega
    subst this
    exact fin τ S hi
end
theorem rng1 (n : Int) (h : 0 ≤ n ∧ n ≤ 1000) (S : Sto) : range1 [.int n] S = some ⟨(List.range n.toNat).map fun i : Nat => .int (i : Int), []⟩ := by
  unfold range1
  simp only
  rw [if_pos (by omega)]
  simp
/-! ### rolls compared -/
theorem depthF : ∀ ks : List (List Key), PyData.depthAll (ks.map fun k => .tuple (k.map keyPy)) ≤ 1
  | [] => by simp [PyData.depthAll]
  | k :: ks => by
    have := depthF ks
    simp only [List.map_cons, PyData.depthAll, PyData.depth, depth_keys]
    omega
theorem eqv_rows : ∀ a b : List (List Key), PyData.eqvAll (a.map fun k => .tuple (k.map keyPy)) (b.map fun k => .tuple (k.map keyPy)) = decide (a = b)
  | [], [] => by simp [PyData.eqvAll]
  | [], _ :: _ => by simp [PyData.eqvAll]
  | _ :: _, [] => by simp [PyData.eqvAll]
  | x :: xs, y :: ys => by
    simp only [List.map_cons, PyData.eqvAll, eqv_row, eqv_rows xs ys, List.cons.injEq]
    by_cases h : x = y <;> simp [h]
theorem rows_pas {ps qs : List Pa} : ps.map Pa.row = qs.map Pa.row ↔ ps = qs := List.map_inj_right fun _ _ e => row_inj.mp e
variable [Rz]
variable {S S' : Sto} {b : Be} {ps : List Pa} {st : St} {r m : Nat}
end Sp

/-! SrG: the whole table; the days that somebody is held. -/
namespace Sp
open PySem L2 Z
section
variable {g : Tgt} {body : MS} {N : Tau → Sto → Prop} {T : Z.D → Sto → Prop} {ks : List (Nat × C)}
end
variable [Rz]
variable {S S' : Sto} {b : Be} {ps : List Pa} {st : St} {r m : Nat}
def cell1 (b : Be) (ps : List Pa) (d c : Nat) : Option (Wd × Int × Int × Int × Int × Option Int) := stand b (reading b (upto ps (d : Int))) (c : Int) (d : Int)
end Sp

/-! SrH: held_days. -/
namespace Sp
open PySem L2 Z
variable [Rz]
variable {S S' : Sto} {b : Be} {ps : List Pa} {st : St} {r m : Nat}
end Sp

/-! SrI: free_from. -/
namespace Sp
open PySem L2 Z
variable [Rz]
variable {S S' : Sto} {b : Be} {ps : List Pa} {st : St} {r m : Nat}
end Sp

/-! what each def does -/
namespace V2
open PySem L2 Z 
variable [Rz]
noncomputable def m_law_cell : List D → Sto → R D := runD 2 2 (sSeq (sIf (mB (mBin dLt (mVar 1) (mCall dLen (aCons (mVar 0) aNil)))) (sRet (mBin dIxA (mVar 0) (mVar 1))) sNil)
  (sRet (mC (.int 0))))
noncomputable def m_law_pen : List D → Sto → R D := runD 1 2 (sSeq (sAsg 1 (mCall dMax2 (aCons (mVar 0) (aCons (mBin dSub (mC (.int 0)) (mVar 0)) aNil))))
  (sRet (mLstN (aCons (mVar 1) (aCons (mCall dInt (aCons (mBin dGe (mVar 1) (mBin dPow (mC (.int 10)) (mC (.int 18)))) aNil)) aNil)))))
noncomputable def m_law_draw : List D → Sto → R D := runD 2 5 (sSeq (sIf (mB (mBin dEq (mBin dIxA (mVar 0) (mC (.int 1))) (mC (.int 1)))) (sSeq (sTup [3, 4] (mCall dDivmod (aCons (mBin dIxA (mVar 0) (mC (.int 0))) (aCons (mVar 1) aNil))))
  (sSeq (sSubA (mVar 0) (mC (.int 0)) (mVar 3))
  (sRet (mVar 4)))) sNil)
  (sSeq (sAsg 2 (mBin dMod (mBin dMul (mBin dAdd (mBin dMod (mBin dIxA (mVar 0) (mC (.int 0))) (mC (.int 2147483647))) (mC (.int 40503))) (mC (.int 69621))) (mC (.int 2147483629))))
  (sSeq (sAsg 2 (mBin dMod (mBin dAdd (mBin dMul (mVar 2) (mVar 2)) (mC (.int 7817))) (mC (.int 2147483587))))
  (sSeq (sSubA (mVar 0) (mC (.int 0)) (mBin dMod (mBin dAdd (mBin dMul (mVar 2) (mC (.int 48271))) (mC (.int 11))) (mC (.int 2147483629))))
  (sRet (mBin dMod (mBin dFdiv (mBin dIxA (mVar 0) (mC (.int 0))) (mC (.int 32))) (mVar 1)))))))
end V2

/-! SqA: a law's own causes: dicts with texts for keys. -/
namespace Sp
open PySem L2 Z
def Ca.kv (c : Ca) : List (Key × Z.D) := [(.inr "who", .tup [.int c.person, .int c.deed]), (.inr "town", .int c.town), (.inr "word", .str c.word.s), (.inr "start", optD c.since), (.inr "days", .lst (c.past.map .int)), (.inr "pledge", optD c.pledger), (.inr "puts", .int c.puts), (.inr "till", .int c.till), (.inr "by", byD c.byp), (.inr "day", .int c.born)]
def Ca.dk (c : Ca) : C := .dK false c.kv
section
variable {c : Ca}
end
/-! ### days -/
section
variable {b : Be} {D n day : Int} {c : Ca}
end
theorem cut_take {ds : List Z.D} {i : Int} (h : 0 ≤ i) : cutD ds none (some i) = ds.take i.toNat := by
  obtain ⟨k, rfl⟩ : ∃ k : Nat, i = k := ⟨i.toNat, by omega⟩
  unfold cutD
  have e1 : HT.sIx ds.length ds.length (some (k : Int)) = min k _ := HT.sIx_nat _ _ k
  have e2 : HT.sIx ds.length 0 none = 0 := rfl
  rw [e1, e2, Int.toNat_natCast]
  simp only [Nat.sub_zero, List.drop_zero]
  rw [← List.take_take, List.take_length]
variable [Rz]
variable {S : Sto} {b : Be} {c : Ca} {l : Nat}
end Sp

/-! SqB: a law's own reading: why a paper does not take. -/
namespace Sp
open PySem L2 Z
def stD (c0 : Nat) (dv : Z.D) : Z.D := .dct [.inr "causes", .inr "pardons", .inr "done"] [.loc c0, .loc (c0 + 1), dv]
structure RepL (S : Sto) (c0 : Nat) (ℓ : Int → Nat) (st : St) : Prop where
  ca : S[c0]? = some (.dK false (caD ℓ st.causes))
  pa : S[c0 + 1]? = some (.lst (st.pardons.map pairI))
  wo : S[c0 + 2]? = some (.lst (st.words.map .str))
  ce : ∀ x ∈ st.causes, S[ℓ x.1]? = some x.2.dk ∧ c0 + 2 < ℓ x.1
  inj : ∀ x ∈ st.causes, ∀ y ∈ st.causes, ℓ x.1 = ℓ y.1 → x.1 = y.1
  nd : (st.causes.map (·.1)).Nodup
/-- the law's list holds what is done -/
def Holds (dv : Z.D) (dn : List Pa) : Prop := ∀ p S, inP (Pa.D p) dv S = some (decide (p ∈ dn))
section
variable {S : Sto} {c0 : Nat} {ℓ : Int → Nat} {st : St} {c c' : Ca} {n : Int}
theorem RepL.cause (R : RepL S c0 ℓ st) (h : valG st.causes n = some c) : S[ℓ n]? = some c.dk ∧ c0 + 2 < ℓ n := R.ce (n, c) (valG_mem h)
theorem RepL.set (R : RepL S c0 ℓ st) (h : valG st.causes n = some c) : RepL (S.set (ℓ n) c'.dk) c0 ℓ (st.setC n c') := by
  have hc := R.cause h
  have hm := valG_mem h
  exact {
    ca := by
      show _ = some (C.dK false (caD ℓ (setC st.causes n c')))
      rw [caD_set]; exact set_ne R.ca (by omega)
    pa := set_ne R.pa (by omega)
    wo := set_ne R.wo (by omega)
    ce := fun x hx => by
      rcases mem_set hx with ⟨e1, e2, _⟩ | ⟨e1, e2⟩
      · rw [e1, e2]; exact ⟨at_set hc.1, hc.2⟩
      · exact ⟨set_ne (R.ce x e2).1 (fun e => e1 (R.inj x e2 (n, c) hm e.symm)), (R.ce x e2).2⟩
    inj := fun x hx y hy e => by
      rcases mem_set hx with ⟨e1, _, c1, hc1⟩ | ⟨e1, e2⟩ <;> rcases mem_set hy with ⟨g1, _, c2, hc2⟩ | ⟨g1, g2⟩
      · rw [e1, g1]
      · rw [e1] at e ⊢; exact R.inj _ hc1 y g2 e
      · rw [g1] at e ⊢; exact R.inj x e2 _ hc2 e
      · exact R.inj x e2 y g2 e
    nd := by show ((setC st.causes n c').map (·.1)).Nodup; rw [keys_set]; exact R.nd }
theorem RepL.words (R : RepL S c0 ℓ st) (w : Str) : RepL (S.set (c0 + 2) (.lst (st.words.map .str ++ [.str w]))) c0 ℓ { st with words := st.words ++ [w] } where
  ca := set_ne R.ca (by omega)
  pa := set_ne R.pa (by omega)
  wo := by rw [at_set R.wo]; simp
  ce := fun x hx => ⟨set_ne (R.ce x hx).1 (by have := (R.ce x hx).2; omega), (R.ce x hx).2⟩
  inj := R.inj
  nd := R.nd
theorem RepL.same (R : RepL S c0 ℓ st) {st' : St} (h1 : st'.causes = st.causes) (h2 : st'.pardons = st.pardons) (h3 : st'.words = st.words) : RepL S c0 ℓ st' :=
  ⟨h1 ▸ R.ca, h2 ▸ R.pa, h3 ▸ R.wo, h1 ▸ R.ce, h1 ▸ R.inj, h1 ▸ R.nd⟩
end
variable [Rz]
variable {S : Sto} {c0 : Nat} {ℓ : Int → Nat} {b : Be} {dn : List Pa} {dv : Z.D} {st : St} {c : Ca}
end Sp

/-! SqC: why, of every paper. -/
namespace Sp
open PySem L2 Z
variable [Rz]
variable {S : Sto} {c0 : Nat} {ℓ : Int → Nat} {b : Be} {dn : List Pa} {dv : Z.D} {st : St} {c : Ca} {D d n : Int} {k : Nat}
end Sp

/-! SqD: why, the whole. -/
namespace Sp
open PySem L2 Z
variable [Rz]
variable {S : Sto} {c0 : Nat} {ℓ : Int → Nat} {b : Be} {dn : List Pa} {dv : Z.D} {st : St} {c : Ca} {D d n : Int} {k : Nat}
end Sp

/-! SqE: why, of every paper; what a paper does. -/
namespace Sp
open PySem L2 Z
variable [Rz]
variable {S : Sto} {c0 : Nat} {ℓ : Int → Nat} {b : Be} {dn : List Pa} {dv : Z.D} {st : St} {c : Ca} {D d n : Int} {k : Nat}
end Sp

/-! SqF: what a paper does. -/
namespace Sp
open PySem L2 Z
variable [Rz]
variable {S : Sto} {c0 : Nat} {ℓ : Int → Nat} {b : Be} {dn : List Pa} {dv : Z.D} {st : St} {c : Ca} {D d n : Int} {k l : Nat}
section
variable (h : S[l]? = some c.dk)
include h
end
end Sp

/-! SqG: do, of every paper that takes. -/
namespace Sp
open PySem L2 Z
variable [Rz]
variable {S : Sto} {c0 : Nat} {ℓ : Int → Nat} {b : Be} {dn : List Pa} {dv : Z.D} {st : St} {c : Ca} {D d n : Int} {k l : Nat}
end Sp

/-! SqH: do, the whole. -/
namespace Sp
open PySem L2 Z
variable [Rz]
variable {S : Sto} {c0 : Nat} {ℓ : Int → Nat} {b : Be} {dn : List Pa} {dv : Z.D} {st : St} {c : Ca} {D d n : Int} {k l : Nat}
end Sp

/-! SpN: more of the plain reading. -/
namespace Sp
open PySem L2 Z
section
variable {b : Be} {sk : List (Pa × Pa)} {dn : List Pa} {D : Int} {k : Nat} {st : St} {p : Pa}
def wordsTo (st : St) (ws : List Str) : St := { st with words := ws }
def w2 (ws : List Str) (x : Str × St) : Str × St := (x.1, wordsTo x.2 ws)
end
end Sp

/-! SqI: the law's own pass. -/
namespace Sp
open PySem L2 Z
variable [Rz]
variable {S : Sto} {c0 : Nat} {ℓ : Int → Nat} {b : Be} {sk : List (Pa × Pa)} {dn : List Pa} {dv sv pv : Z.D} {st : St} {c : Ca} {D d n : Int} {k l : Nat}
end Sp

/-! SqJ: the law's own reading, the whole. -/
namespace Sp
open PySem L2 Z
variable [Rz]
variable {S : Sto} {c0 : Nat} {ℓ : Int → Nat} {b : Be} {sk : List (Pa × Pa)} {dn : List Pa} {dv sv pv : Z.D} {st : St} {c : Ca} {D d n : Int} {k l : Nat}
end Sp

/-! SqK: the law's own table. -/
namespace Sp
open PySem L2 Z
/-! ### what stays true up to a day -/
theorem eq_pasL (ps qs : List Pa) (S : Sto) : dEq (.lst (ps.map Pa.D)) (.lst (qs.map Pa.D)) S = .ok (.bl (decide (ps = qs))) S := by
  have e1 : ∀ ps : List Pa, toPy (.lst (ps.map Pa.D)) S = some (.list ((ps.map Pa.row).map fun k => .tuple (k.map keyPy))) := fun ps => by rw [map_D]; simp only [toPy, toPyD, py_rows, Option.map_some]
  have e3 : plainB (.list ((ps.map Pa.row).map fun k => .tuple (k.map keyPy))) (.list ((qs.map Pa.row).map fun k => .tuple (k.map keyPy))) = true := by
    have h1 := depthF (ps.map Pa.row)
    have h2 := depthF (qs.map Pa.row)
    generalize ps.map Pa.row = as at *
    generalize qs.map Pa.row = bs at *
    simp [plainB, PyData.plain, plain_rows, PyData.depth]
    omega
  unfold dEq dDat
  rw [e1, e1]
  simp only [e3, if_true, PyData.eqv, eqv_rows, rows_pas]
variable [Rz]
variable {S S' : Sto} {b : Be} {ps : List Pa} {st : St} {m k : Nat} {sd : Z.D}
/-- a law's own reading, all of its cells from m on -/
def RdL (S : Sto) (m : Nat) (sd : Z.D) (st : St) : Prop := ∃ c0 ℓ dv, sd = stD c0 dv ∧ m ≤ c0 ∧ RepL S c0 ℓ st
theorem RepL.keep {c0 : Nat} {ℓ : Int → Nat} (R : RepL S c0 ℓ st) (h : ∀ i, c0 ≤ i → i < S.length → S'[i]? = S[i]?) : RepL S' c0 ℓ st := by
  have g : ∀ {i : Nat} {c : C}, c0 ≤ i → S[i]? = some c → S'[i]? = some c := fun hi e => (h _ hi (lt_of_at e)).trans e
  exact ⟨g (by omega) R.ca, g (by omega) R.pa, g (by omega) R.wo, fun x hx => ⟨g (by have := (R.ce x hx).2; omega) (R.ce x hx).1, (R.ce x hx).2⟩, R.inj, R.nd⟩
theorem RdL.keep (R : RdL S m sd st) (h : ∀ i, m ≤ i → i < S.length → S'[i]? = S[i]?) : RdL S' m sd st := by
  obtain ⟨c0, ℓ, dv, h0, h1, h2⟩ := R
  exact ⟨c0, ℓ, dv, h0, h1, h2.keep fun i hi hl => h i (by omega) hl⟩
theorem RdL.fr (R : RdL S m sd st) (h : Fr S.length S S') : RdL S' m sd st := R.keep fun i _ hl => h.2 i hl
/-- the law's readings of the days ahead of k -/
def RdsL (S : Sto) (m : Nat) (b : Be) (ps : List Pa) (rs : List Z.D) : Prop := ∀ (i : Nat) (r : Z.D), rs[i]? = some r → RdL S m r (reading b (upto ps (i : Int)))
end Sp

/-! SqL: the law's own table, whole. -/
namespace Sp
open PySem L2 Z
variable [Rz]
variable {S S' : Sto} {b : Be} {ps : List Pa} {st : St} {m k : Nat} {sd : Z.D}
end Sp

/-! SqM: the pen; benches drawn. -/
namespace Sp
open PySem L2 Z
/-- the pen's cell changes, new cells come: all else stays -/
structure PF (l : Nat) (S S' : Sto) : Prop where
  pen : Pen l S'
  len : S.length ≤ S'.length
  eq : ∀ i, i < S.length → i ≠ l → S'[i]? = S[i]?
theorem PF.refl {l : Nat} {S : Sto} (h : Pen l S) : PF l S S := ⟨h, Nat.le_refl _, fun _ _ _ => rfl⟩
theorem PF.trans {l : Nat} {S S1 S2 : Sto} (h : PF l S S1) (h2 : PF l S1 S2) : PF l S S2 := ⟨h2.pen, Nat.le_trans h.len h2.len, fun i hi hn => (h2.eq i (Nat.lt_of_lt_of_le hi h.len) hn).trans (h.eq i hi hn)⟩
theorem PF.at {l k : Nat} {S S' : Sto} {c : C} (h : PF l S S') (e : S[k]? = some c) (hn : k ≠ l) : S'[k]? = some c := (h.eq k (lt_of_at e) hn).trans e
theorem PF.app {l : Nat} {S T : Sto} (h : Pen l S) : PF l S (S ++ T) := by
  obtain ⟨a, b, e⟩ := h
  exact ⟨⟨a, b, app_at e⟩, by simp, fun i hi _ => List.getElem?_append_left hi⟩
theorem PF.set {l k : Nat} {S S1 : Sto} {c : C} (h : PF l S S1) (hk : S.length ≤ k) (hl : k ≠ l) : PF l S (S1.set k c) := by
  obtain ⟨a, b, e⟩ := h.pen
  exact ⟨⟨a, b, set_ne e hl⟩, by simpa using h.len, fun i hi hn => by rw [List.getElem?_set_ne (by omega)]; exact h.eq i hi hn⟩
theorem PF.fr {l : Nat} {S S' : Sto} (h : Pen l S) (f : Fr S.length S S') : PF l S S' := by
  obtain ⟨a, b, e⟩ := h
  exact ⟨⟨a, b, f.at (lt_of_at e) e⟩, f.1, fun i hi _ => f.2 i hi⟩
variable [Rz]
variable {l : Nat} {S S' : Sto} {Q : Z.D → Sto → Prop}
theorem draw2 {n : Int} (hp : Pen l S) (h0 : 0 < n) (h1 : n < 1073741824) (k : ∀ r S', 0 ≤ r → r < n → PF l S S' → Q (.int r) S') : wpR (V2.m_law_draw [.loc l, .int n] S) Q := by
  obtain ⟨a, b, h⟩ := hp
  have hl := (List.getElem?_eq_some_iff.mp h).1
  have i0 : ∀ x y : Int, atI [Z.D.int x, Z.D.int y] 0 = some (.int x) := fun _ _ => rfl
  have i1 : ∀ x y : Int, atI [Z.D.int x, Z.D.int y] 1 = some (.int y) := fun _ _ => rfl
  have gs : ∀ c, (S.set l c)[l]? = some c := fun c => List.getElem?_set_self hl
  have p0 : ∀ x : Int, dPut (.loc l) (.int 0) (.int x) S = some (S.set l (.lst [.int x, .int b])) := fun x => put_L (j := 0) h rfl
  have hf : ∀ x : Int, PF l S (S.set l (.lst [.int x, .int b])) := fun x => ⟨⟨_, _, gs _⟩, by simp, fun i hi hn => by rw [List.getElem?_set_ne (Ne.symm hn)]⟩
  unfold V2.m_law_draw
  simp [x_ixLl h, i0, i1, h0, h1, h, setAll, bindT, p0, x_ixLl (gs _)]
  refine ⟨fun _ => ?_, fun _ => ?_⟩
  · exact k _ _ (Int.emod_nonneg _ (by omega)) (Int.emod_lt_of_pos _ h0) (hf _)
  · refine ⟨?_, ?_⟩
    · have := Int.emod_nonneg ((a % 2147483647 + 40503) * 69621) (b := 2147483629) (by omega)
      have := Int.emod_lt_of_pos ((a % 2147483647 + 40503) * 69621) (b := 2147483629) (by omega)
      omega
    · exact k _ _ (Int.emod_nonneg _ (by omega)) (Int.emod_lt_of_pos _ h0) (hf _)
theorem pen2 {c : Int} (k : ∀ S', PF S.length (S ++ [.lst []]) S' → S'.length = S.length + 1 → Q (.loc S.length) S') : wpR (V2.m_law_pen [.int c] S) Q := by
  unfold V2.m_law_pen
  simp
  refine ⟨by decide, k _ ⟨⟨_, _, by simp; exact ⟨rfl, rfl⟩⟩, by simp, fun i hi hn => ?_⟩ (by simp)⟩
  simp at hi
  rw [List.getElem?_append_left (by omega), List.getElem?_append_left (by omega)]
theorem cell2 {cs : List Int} {n : Int} (h0 : 0 ≤ n) (k : ∀ c : Int, Q (.int c) S) : wpR (V2.m_law_cell [.scr (cs.map Z.D.int), .int n] S) Q := by
  unfold V2.m_law_cell
  simp
  refine ⟨fun h => ?_, fun _ => k 0⟩
  obtain ⟨d, h1, h2, _⟩ := atI_mem (ds := cs.map Z.D.int) h0 (by simpa using h)
  obtain ⟨c, _, rfl⟩ := List.mem_map.mp h2
  exact ⟨_, h1, k c⟩
/-- a draw from a row of numbers -/
theorem pick {is : List Int} {r : Int} (h0 : 0 ≤ r) (h1 : r < is.length) : ∃ i ∈ is, atI (is.map Z.D.int) r = some (.int i) := by
  obtain ⟨d, h3, h4, _⟩ := atI_mem (ds := is.map Z.D.int) h0 (by simpa using h1)
  obtain ⟨c, hc, rfl⟩ := List.mem_map.mp h4
  exact ⟨c, hc, h3⟩
end Sp

/-! SqN: a bench drawn. -/
namespace Sp
open PySem L2 Z
variable [Rz]
variable {l : Nat} {S S' : Sto} {Q : Z.D → Sto → Prop}
theorem tupL {f : Nat} {ds : List Z.D} (h : S[f]? = some (.lst ds)) : dTuple [.loc f] S = .ok (.tup ds) S := by simp [dTuple, listR, h]
end Sp

/-! SqO: papers drawn. -/
namespace Sp
open PySem L2 Z
variable [Rz]
variable {l : Nat} {S S' : Sto} {Q : Z.D → Sto → Prop} {b : Be}
theorem pickS {ws : List Str} {r : Int} (h0 : 0 ≤ r) (h1 : r < ws.length) : ∃ w ∈ ws, atI (ws.map Z.D.str) r = some (.str w) := by
  obtain ⟨d, h3, h4, _⟩ := atI_mem (ds := ws.map Z.D.str) h0 (by simpa using h1)
  obtain ⟨c, hc, rfl⟩ := List.mem_map.mp h4
  exact ⟨c, hc, h3⟩
end Sp

/-! SqP: a roll drawn. -/
namespace Sp
open PySem L2 Z
theorem rowsOf_ps : ∀ ps : List Pa, rowsOfD (ps.map Pa.D) = some (ps.map Pa.row)
  | [] => rfl
  | p :: ps => by
    simp only [List.map_cons, rowsOfD, rowsOf_ps ps]
    rw [show rowOfD p.D = some p.row from rowOf_row p.row]
theorem rowsOk_ps {ps : List Pa} (h : ps.length < 64) : rowsOk (ps.map Pa.row) = true := by
  simp only [rowsOk, Bool.and_eq_true, decide_eq_true_eq, List.all_eq_true, List.length_map]
  refine ⟨h, fun x hx => ?_⟩
  obtain ⟨p, _, rfl⟩ := List.mem_map.mp hx
  refine ⟨by cases p <;> rfl, fun y hy => ?_⟩
  obtain ⟨q, _, rfl⟩ := List.mem_map.mp hy
  exact alikeP p q
theorem of_rows : ∀ {L : List (List Key)}, (∀ x ∈ L, ∃ p, okP p ∧ x = p.row) → ∃ qs : List Pa, L = qs.map Pa.row ∧ ∀ q ∈ qs, okP q
  | [], _ => ⟨[], rfl, fun q hq => by cases hq⟩
  | x :: L, h => by
    obtain ⟨p, hp, rfl⟩ := h x (by simp)
    obtain ⟨qs, rfl, hqs⟩ := of_rows (L := L) fun y hy => h y (by simp [hy])
    exact ⟨p :: qs, rfl, fun q hq => (List.mem_cons.mp hq).elim (fun e => e ▸ hp) (hqs q)⟩
theorem rows_D (qs : List Pa) : (qs.map Pa.row).map rowD = qs.map Pa.D := by rw [List.map_map]; rfl
variable [Rz]
variable {l : Nat} {S S' : Sto} {Q : Z.D → Sto → Prop} {b : Be}
end Sp

/-! what each def does -/
namespace V3
open PySem L2 Z V2
variable [Rz]
noncomputable def m_law_below : List D → Sto → R D := runD 2 2 (sRet (mAndV (mCall dIsa (aCons (mVar 0) (aCons (mC (.ob (.ty "int"))) aNil))) (mAndV (mNotV (mCall dIsa (aCons (mVar 0) (aCons (mC (.ob (.ty "bool"))) aNil)))) (mChain dLe dLt (mC (.int 0)) (mVar 0) (mVar 1)))))
noncomputable def m_law_is_paper : List D → Sto → R D := runD 1 6 (sSeq (sAsg 1 (mDispN [((mC (.str "charge")), (mLst (aCons (mC (.int 6)) (aCons (mC (.int 6)) (aCons (mC (.int 4)) (aCons (mC (.int 4)) aNil)))))), ((mC (.str "bill")), (mLst (aCons (mC (.int 6)) (aCons (mC (.int 2)) aNil)))), ((mC (.str "pledge")), (mLst (aCons (mC (.int 6)) (aCons (mC (.int 6)) aNil)))), ((mC (.str "move")), (mLst (aCons (mC (.int 6)) (aCons (mC (.int 4)) aNil)))), ((mC (.str "judge")), (mLst (aCons (mC (.int 6)) (aCons (mC (.int 2)) aNil)))), ((mC (.str "pardon")), (mLst (aCons (mC (.int 6)) (aCons (mC (.int 4)) aNil))))]))
  (sSeq (sExpr (mMeth "dict" dUpdate (mVar 1) (aCons (mDisp [((mC (.str "hold")), (mLst (aCons (mC (.int 6)) aNil))), ((mC (.str "miss")), (mLst (aCons (mC (.int 6)) aNil))), ((mC (.str "over")), (mLst (aCons (mC (.int 6)) aNil))), ((mC (.str "aside")), (mLst (aCons (mC (.int 6)) aNil)))]) aNil)))
  (sSeq (sIf (mOr (mNot (mT (mCall dIsa (aCons (mVar 0) (aCons (mC (.ob (.ty "tuple"))) aNil))))) (mOr (mB (mBin dLt (mCall dLen (aCons (mVar 0) aNil)) (mC (.int 3)))) (mOr (mNot (mT (mCall dIsa (aCons (mBin dIxA (mVar 0) (mC (.int 1))) (aCons (mC (.ob (.ty "str"))) aNil))))) (mB (mBin dNotInA (mBin dIxA (mVar 0) (mC (.int 1))) (mVar 1)))))) (sRet (mC (.bl false))) sNil)
  (sSeq (sPar [2, 3] (aCons (mBin dAdd (mSl (mVar 0) none (some (mC (.int 1)))) (mSl (mVar 0) (some (mC (.int 2))) none)) (aCons (mBin dAdd (mLst (aCons (mC (.int 61)) aNil)) (mBin dIxA (mVar 1) (mBin dIxA (mVar 0) (mC (.int 1))))) aNil)))
  (sSeq (sIf (mB (mBin dNe (mCall dLen (aCons (mVar 2) aNil)) (mCall dLen (aCons (mVar 3) aNil)))) (sRet (mC (.bl false))) sNil)
  (sRet (mCall dAll (aCons (mComp (iArgs zipA (aCons (mVar 2) (aCons (mVar 3) aNil))) (.tp [4, 5]) [4, 5] tYesM (mCall m_law_below (aCons (mVar 4) (aCons (mVar 5) aNil)))) aNil))))))))
end V3

/-! SqQ: functions that more laws share. -/
namespace Sp
open PySem L2 Z
/-! ### days of one that is held, as the law counts them -/
variable [Rz]
variable {l : Nat} {S S' : Sto} {Q : Z.D → Sto → Prop} {b : Be} {ps : List Pa}
end Sp

/-! SrK: what the ends of laws share: repr, cells, comparisons. -/
namespace Sp
open PySem L2 Z
variable {l : Nat} {S S' : Sto} {b : Be} {ps : List Pa}
/-! ### what repr says -/
theorem repr_all {ks : List Nat} {d : Z.D} (h : Gq ks d = true) (hk : ks.length ≤ 64) (hw : Wq ks ≤ 16777216) : ∃ x, ∀ S, dRepr [d] S = .ok (.str x) S := by
  obtain ⟨p, h1, h2⟩ := repr_q (S := []) h hk hw
  refine ⟨p.shown, fun S => ?_⟩
  obtain ⟨p2, h3, h4⟩ := repr_q (S := S) h hk hw
  rw [h1] at h3
  cases h3
  exact h4
theorem Gq_s {ks : List Nat} {x : Str} (h : (decide (x.length ≤ 8) && x.cps.toList.all fun c => decide (c < 16 ^ 8)) = true) : Gq ks (.str x) = true := by
  cases ks <;> exact h
theorem Gq_i {ks : List Nat} {i : Int} (h0 : -1000 ≤ i ∧ i ≤ 1000) : Gq ks (.int i) = true := Gq_int (by omega) (by omega)
theorem Gq_pa {ks : List Nat} {p : Pa} (h : okP p) : Gq (8 :: ks) p.D = true := by
  cases p <;> simp only [okP] at h <;> refine Gq_tup (by simp [Pa.row]) fun d hd => ?_ <;> simp only [Pa.row, List.map_cons, List.map_nil, keyD, List.mem_cons, List.not_mem_nil, or_false] at hd <;> rcases hd with rfl | rfl | hd <;> first | exact Gq_i (by omega) | exact Gq_s (by decide +kernel) | skip
  all_goals first | (rcases hd with rfl | rfl | rfl | rfl <;> exact Gq_i (by omega)) | (rcases hd with rfl | rfl <;> exact Gq_i (by omega)) | (subst hd; exact Gq_i (by omega)) | skip
theorem Pen.fr {l : Nat} {S S' : Sto} (h : Pen l S) (f : Fr S.length S S') : Pen l S' := (PF.fr h f).pen
theorem cut_len (ds : List Z.D) (a b : Option Int) : (cutD ds a b).length ≤ ds.length := by
  unfold cutD
  rw [List.length_take, List.length_drop]
  omega
theorem cells_int {ns : List Int} {c : Int} {x y : Option Int} : ∀ d ∈ Z.D.int c :: cutD (ns.map Z.D.int) x y, ∃ c : Int, d = .int c := fun d hd => by
  rcases List.mem_cons.mp hd with rfl | hd
  · exact ⟨_, rfl⟩
  · obtain ⟨x, _, rfl⟩ := List.mem_map.mp (cutD_mem hd)
    exact ⟨_, rfl⟩
end Sp

/-! SrL: causes of a kind, sorted; pledged_for, open_causes; what a judge paper would become. -/
namespace Sp
open PySem L2 Z
variable [Rz]
variable {S S' : Sto} {b : Be} {ps : List Pa} {st : St} {r m n0 : Nat} {ℓ : Int → Nat} {sk : List (Pa × Pa)} {dn : List Pa}
end Sp

/-! SrM: papers sorted; lists of numbers compared, shown. -/
namespace Sp
open PySem L2 Z
/-! ### sorted -/
theorem sortP_ex (ps : List Pa) : ∃ qs : List Pa, sortR (ps.map Pa.row) = qs.map Pa.row ∧ (∀ q, q ∈ qs ↔ q ∈ ps) ∧ qs.Pairwise fun a b => ltP a b = true := by
  have hal : ∀ x ∈ ps.map Pa.row, ∀ y ∈ ps.map Pa.row, alikeR x y = true := fun x hx y hy => by
    obtain ⟨p, _, rfl⟩ := List.mem_map.mp hx
    obtain ⟨q, _, rfl⟩ := List.mem_map.mp hy
    exact alikeP p q
  have of_rows : ∀ {L : List (List Key)}, (∀ x ∈ L, ∃ p : Pa, x = p.row) → ∃ qs : List Pa, L = qs.map Pa.row := fun {L} => by
    induction L with
    | nil => exact fun _ => ⟨[], rfl⟩
    | cons x L ih =>
      intro h
      obtain ⟨p, rfl⟩ := h x (by simp)
      obtain ⟨qs, rfl⟩ := ih fun y hy => h y (by simp [hy])
      exact ⟨p :: qs, rfl⟩
  obtain ⟨qs, e⟩ := of_rows (L := sortR (ps.map Pa.row)) fun x hx => by
    obtain ⟨p, hp, rfl⟩ := List.mem_map.mp ((sortR_mem hal).mp hx)
    exact ⟨p, rfl⟩
  refine ⟨qs, e, fun q => ?_, ?_⟩
  · have h1 : q.row ∈ sortR (ps.map Pa.row) ↔ q.row ∈ ps.map Pa.row := sortR_mem hal
    rw [e] at h1
    simp only [List.mem_map, row_inj, exists_eq_right] at h1
    exact h1
  · have up := sortR_up hal
    rw [e, List.pairwise_map] at up
    exact up
noncomputable def sortP (ps : List Pa) : List Pa := Classical.choose (sortP_ex ps)
theorem sortP_row (ps : List Pa) : sortR (ps.map Pa.row) = (sortP ps).map Pa.row := (Classical.choose_spec (sortP_ex ps)).1
theorem mem_sortP {ps : List Pa} {q : Pa} : q ∈ sortP ps ↔ q ∈ ps := (Classical.choose_spec (sortP_ex ps)).2.1 q
theorem sortP_up (ps : List Pa) : (sortP ps).Pairwise fun a b => ltP a b = true := (Classical.choose_spec (sortP_ex ps)).2.2
theorem rise_nd {ps : List Pa} (h : ps.Pairwise fun a b => ltP a b = true) : ps.Nodup := h.imp fun {a b} h e => by subst e; rw [ltP_irr] at h; cases h
theorem sortP_len (ps : List Pa) : (sortP ps).length ≤ ps.length := List.Nodup.length_le_of_subset (rise_nd (sortP_up ps)) fun _ h => mem_sortP.mp h
theorem rise_eq : ∀ {as bs : List Pa}, as.Pairwise (fun a b => ltP a b = true) → bs.Pairwise (fun a b => ltP a b = true) → (∀ q, q ∈ as ↔ q ∈ bs) → as = bs
  | [], [], _, _, _ => rfl
  | [], b :: bs, _, _, h => by have := (h b).mpr (by simp); cases this
  | a :: as, [], _, _, h => by have := (h a).mp (by simp); cases this
  | a :: as, b :: bs, ha, hb, h => by
    have ha' := List.pairwise_cons.mp ha
    have hb' := List.pairwise_cons.mp hb
    have e : a = b := by
      rcases List.mem_cons.mp ((h a).mp (by simp)) with e | h1
      · exact e
      · rcases List.mem_cons.mp ((h b).mpr (by simp)) with e | h2
        · exact e.symm
        · have := ltP_trans (hb'.1 a h1) (ha'.1 b h2)
          rw [ltP_irr] at this; cases this
    subst e
    congr 1
    refine rise_eq ha'.2 hb'.2 fun q => ⟨fun hq => ?_, fun hq => ?_⟩
    · rcases List.mem_cons.mp ((h q).mp (by simp [hq])) with e | h1
      · subst e; have := ha'.1 q hq; rw [ltP_irr] at this; cases this
      · exact h1
    · rcases List.mem_cons.mp ((h q).mpr (by simp [hq])) with e | h1
      · subst e; have := hb'.1 q hq; rw [ltP_irr] at this; cases this
      · exact h1
theorem sortP_self {ps : List Pa} (h : ps.Pairwise fun a b => ltP a b = true) : sortP ps = ps := rise_eq (sortP_up ps) h fun _ => mem_sortP
theorem sortRowsP {d : Z.D} {ps : List Pa} {S : Sto} (h : seqR d S = some (ps.map Pa.D)) (hl : ps.length < 64) : dSortRows d S = .ok (.lst ((sortP ps).map Pa.D)) S := by
  unfold dSortRows
  rw [h]
  simp only [rowsOf_ps]
  rw [show rowsOk (ps.map Pa.row) = true from rowsOk_ps hl, sortP_row, rows_D]
  rfl
/-! ### lists of numbers compared -/
end Sp

/-! SwB: papers and rolls as texts. -/
namespace Sp
open PySem L2 Z
theorem joinL_mem {s : List Nat} {c : Nat} : ∀ {ps : List (List Nat)}, c ∈ TL.joinL s ps → c ∈ s ∨ ∃ p ∈ ps, c ∈ p
  | [], h => by simp [TL.joinL] at h
  | [p], h => .inr ⟨p, by simp, h⟩
  | p :: q :: r, h => by
    simp only [TL.joinL, List.mem_append] at h
    rcases h with h | h | h
    · exact .inr ⟨p, by simp, h⟩
    · exact .inl h
    · rcases joinL_mem (ps := q :: r) h with h | ⟨z, hz, h⟩
      · exact .inl h
      · exact .inr ⟨z, List.mem_cons_of_mem _ hz, h⟩
theorem join_mem {s : Str} {c : Nat} {ps : List Str} (h : c ∈ TL.tl (Str.join s ps)) : c ∈ TL.tl s ∨ ∃ p ∈ ps, c ∈ TL.tl p := by
  rw [TL.tl_join] at h
  rcases joinL_mem h with h | ⟨z, hz, h⟩
  · exact .inl h
  · obtain ⟨p, hp, rfl⟩ := List.mem_map.mp hz
    exact .inr ⟨p, hp, h⟩
/-- what is written of a thing -/
def tokD : Z.D → Str
  | .int i => numT i
  | .str x => x
  | _ => Str.empty
def rowOf : Z.D → List Z.D
  | .tup ds => ds
  | _ => []
def toks (p : Pa) : List Str := (rowOf p.D).map tokD
def textP (p : Pa) : Str := Str.join spc (toks p)
theorem num_int {d : Z.D} {a b : Int} (h : num d a b = true) : ∃ i, d = .int i ∧ a ≤ i ∧ i ≤ b := by
  cases d <;> simp [num] at h
  exact ⟨_, rfl, h⟩
theorem fits_ints : ∀ {r : List Z.D} {ms : List Int}, r.length = ms.length → fits r ms = true → ∃ ns : List Int, r = ns.map .int ∧ ns.length = ms.length ∧ ∀ y ∈ ns.zip ms, 0 ≤ y.1 ∧ y.1 ≤ y.2 - 1
  | [], [], _, _ => ⟨[], rfl, rfl, by simp⟩
  | [], _ :: _, h, _ => by simp at h
  | _ :: _, [], h, _ => by simp at h
  | x :: r, m :: ms, h, h2 => by
    simp only [fits, List.zip_cons_cons, List.all_cons, Bool.and_eq_true] at h2
    obtain ⟨i, rfl, h3, h4⟩ := num_int h2.1
    obtain ⟨ns, rfl, hl, hn⟩ := fits_ints (r := r) (ms := ms) (by simpa using h) h2.2
    refine ⟨i :: ns, rfl, by simp [hl], fun y hy => ?_⟩
    rcases List.mem_cons.mp hy with rfl | hy
    · exact ⟨h3, h4⟩
    · exact hn y hy
theorem word_good {w : Str} {ms : List Int} (h : valG forms w = some ms) : (w.length ≤ 8 ∧ ∀ c ∈ TL.tl w, 97 ≤ c ∧ c ≤ 122) ∧ ms.length ≤ 4 ∧ ∀ m ∈ ms, m ≤ 6 := by
  have := valG_mem h
  simp only [forms, List.mem_cons, Prod.mk.injEq, List.not_mem_nil, or_false] at this
  rcases this with h | h | h | h | h | h | h | h | h | h <;> rw [h.1, h.2] <;> decide +kernel
theorem zip_fst {α β : Type} : ∀ {as : List α} {bs : List β}, as.length = bs.length → ∀ a ∈ as, ∃ b ∈ bs, (a, b) ∈ as.zip bs
  | [], _, _, a, h => by cases h
  | x :: as, [], h, _, _ => by simp at h
  | x :: as, y :: bs, h, a, ha => by
    rcases List.mem_cons.mp ha with rfl | ha
    · exact ⟨y, by simp, by simp⟩
    · obtain ⟨b, hb, hz⟩ := zip_fst (as := as) (bs := bs) (by simpa using h) a ha
      exact ⟨b, by simp [hb], by simp [hz]⟩
structure Parts (p : Pa) (d : Int) (w : Str) (ns : List Int) : Prop where
  row : p.D = .tup (.int d :: .str w :: ns.map .int)
  day : 0 ≤ d ∧ d ≤ 60
  form : ∃ ms, valG forms w = some ms
  wl : w.length ≤ 8
  wc : ∀ c ∈ TL.tl w, 97 ≤ c ∧ c ≤ 122
  nl : ns.length ≤ 4
  nn : ∀ n ∈ ns, 0 ≤ n ∧ n ≤ 60
theorem pt_parts {p : Pa} (h : okP p) : ∃ d w ns, Parts p d w ns := by
  have h1 := isPa_of h
  have hd : ∃ ds, p.D = .tup ds := ⟨_, rfl⟩
  obtain ⟨ds, e⟩ := hd
  rw [e] at h1
  unfold isPa at h1
  split at h1
  · rename_i x w r e2
    cases e2
    split at h1
    · rename_i ms hms
      simp only [Bool.and_eq_true, decide_eq_true_eq] at h1
      obtain ⟨i, rfl, a1, a2⟩ := num_int h1.1.2
      obtain ⟨ns, rfl, hl, hn⟩ := fits_ints h1.1.1 h1.2
      obtain ⟨⟨g1, g2⟩, g3, g4⟩ := word_good hms
      refine ⟨i, w, ns, e, ⟨a1, a2⟩, ⟨ms, hms⟩, g1, g2, by omega, fun n h => ?_⟩
      obtain ⟨m, hm, hz⟩ := zip_fst hl n h
      have := hn _ hz
      have := g4 m hm
      simp only at *
      omega
    · cases h1
  · cases h1
section
variable {p : Pa} {d : Int} {w : Str} {ns : List Int}
theorem Parts.toks (h : Parts p d w ns) : toks p = numT d :: w :: ns.map numT := by
  unfold Sp.toks
  rw [h.row]
  simp [rowOf, tokD]
theorem Parts.tok (h : Parts p d w ns) {t : Str} (ht : t ∈ Sp.toks p) : t.length ≤ 8 ∧ ∀ c ∈ TL.tl t, 48 ≤ c ∧ c ≤ 122 ∧ c ≠ 59 := by
  have nm : ∀ n : Int, 0 ≤ n ∧ n ≤ 60 → (numT n).length ≤ 8 ∧ ∀ c ∈ TL.tl (numT n), 48 ≤ c ∧ c ≤ 122 ∧ c ≠ 59 := fun n hn => by
    obtain ⟨-, -, h3, h4⟩ := num_ok hn.1 hn.2
    exact ⟨by omega, fun c hc => by have := h4 c hc; omega⟩
  rw [h.toks] at ht
  rcases List.mem_cons.mp ht with rfl | ht
  · exact nm d h.day
  · rcases List.mem_cons.mp ht with rfl | ht
    · exact ⟨h.wl, fun c hc => by have := h.wc c hc; omega⟩
    · obtain ⟨n, hn, rfl⟩ := List.mem_map.mp ht
      exact nm n (h.nn n hn)
end
theorem sum_le {k : Nat} : ∀ {l : List Nat}, (∀ x ∈ l, x ≤ k) → l.sum ≤ l.length * k
  | [], _ => by simp
  | x :: l, h => by
    have h1 := h x (by simp)
    have h2 := sum_le (l := l) fun y hy => h y (by simp [hy])
    simp only [List.sum_cons, List.length_cons, Nat.add_mul]
    omega
theorem join_le {k m : Nat} {s : Str} {ps : List Str} (h : ∀ t ∈ ps, t.length ≤ k) (hm : ps.length ≤ m) : (ps.map (·.length)).sum + ps.length * s.length ≤ m * (k + s.length) := by
  have h1 := sum_le (l := ps.map (·.length)) (k := k) fun x hx => by
    obtain ⟨t, ht, rfl⟩ := List.mem_map.mp hx
    exact h t ht
  rw [List.length_map] at h1
  have h2 : ps.length * (k + s.length) ≤ m * (k + s.length) := Nat.mul_le_mul_right _ hm
  rw [Nat.mul_add] at h2
  omega
theorem toks_len {p : Pa} (h : okP p) : (toks p).length ≤ 6 := by
  obtain ⟨d, w, ns, hp⟩ := pt_parts h
  rw [hp.toks]
  have := hp.nl
  simp; omega
theorem toks_sum {p : Pa} (h : okP p) : ((toks p).map (·.length)).sum + (toks p).length * spc.length ≤ 54 := by
  obtain ⟨d, w, ns, hp⟩ := pt_parts h
  exact join_le (s := spc) (k := 8) (fun t ht => (hp.tok ht).1) (toks_len h)
theorem textP_len {p : Pa} (h : okP p) : (textP p).length ≤ 54 := Nat.le_trans (join_len _ _) (toks_sum h)
theorem textP_mem {p : Pa} (h : okP p) {c : Nat} (hc : c ∈ TL.tl (textP p)) : 32 ≤ c ∧ c ≤ 122 ∧ c ≠ 59 := by
  obtain ⟨d, w, ns, hp⟩ := pt_parts h
  rcases join_mem hc with h | ⟨t, ht, h⟩
  · have e : TL.tl spc = [32] := by decide +kernel
    rw [e] at h
    simp at h; omega
  · have := (hp.tok ht).2 c h; omega
end Sp

/-! SqR: more rolls drawn. -/
namespace Sp
open PySem L2 Z
variable [Rz]
variable {l : Nat} {S S' : Sto} {Q : Z.D → Sto → Prop} {b : Be} {ps : List Pa}
end Sp

/-! SrN: tables compared; first_apart. -/
namespace Sp
open PySem L2 Z
set_option synthInstance.maxSize 10000 in
instance decRow : DecidableEq (Option (Wd × Int × Int × Int × Int × Option Int)) := inferInstance
abbrev Row := Option (Wd × Int × Int × Int × Int × Option Int)
/-! ### where two rolls part -/
section
variable {b : Be} {ps qs : List Pa}
end
variable [Rz]
variable {S S' : Sto} {b : Be} {ps qs : List Pa}
end Sp

/-! SqS: rolls with a paper less, otherwise; short rolls. -/
namespace Sp
open PySem L2 Z
def without (ps : List Pa) (p : Pa) : List Pa := ps.filter fun q => !decide (q = p)
theorem without_lt {ps : List Pa} {p : Pa} (h : p ∈ ps) : (without ps p).length < ps.length := by
  unfold without
  rw [List.length_filter_lt_length_iff_exists]
  exact ⟨p, h, by simp⟩
theorem cut_drop {ds : List Z.D} {i : Int} (h : 0 ≤ i) : cutD ds (some i) none = ds.drop i.toNat := by
  obtain ⟨k, rfl⟩ : ∃ k : Nat, i = k := ⟨i.toNat, by omega⟩
  unfold cutD
  have e1 : HT.sIx ds.length 0 (some (k : Int)) = min k _ := HT.sIx_nat _ _ k
  have e2 : HT.sIx ds.length ds.length none = ds.length := rfl
  rw [e1, e2, Int.toNat_natCast]
  rcases Nat.le_total k ds.length with h | h
  · rw [Nat.min_eq_left h, List.take_of_length_le (by simp)]
  · rw [Nat.min_eq_right h, List.drop_eq_nil_of_le (Nat.le_refl _), List.drop_eq_nil_of_le h]; simp
theorem sl1 (p : Pa) (S : Sto) : dSl p.D (some 1) none S = .ok (.tup (p.row.tail.map keyD)) S := by
  have e : p.D = .tup (p.row.map keyD) := rfl
  rw [e, x_slT, cut_drop (by decide)]
  cases p <;> rfl
variable [Rz]
variable {l : Nat} {S S' : Sto} {Q : Z.D → Sto → Prop} {b : Be} {ps : List Pa}
end Sp

/-! SrO: idle papers, bare rolls. -/
namespace Sp
open PySem L2 Z
/-! ### tables as plain data -/
def tabR (b : Be) (ps : List Pa) : List (List Row) := (List.range 61).map fun d : Nat => (List.range 6).map fun c : Nat => cell1 b ps d c
/-! ### idle papers -/
def idleB (b : Be) (ps : List Pa) (p : Pa) : Bool := decide (tabR b (without ps p) = tabR b ps)
def greatest (b : Be) (ps : List Pa) : Option Pa := ps.reverse.find? (idleB b ps)
theorem greatest_mem {b : Be} {ps : List Pa} {p : Pa} (h : greatest b ps = some p) : p ∈ ps := List.mem_reverse.mp (List.mem_of_find?_eq_some h)
noncomputable def bare (b : Be) (ps : List Pa) : List Pa := match h : greatest b ps with
  | none => ps
  | some p => bare b (without ps p)
termination_by ps.length
decreasing_by exact without_lt (greatest_mem h)
theorem bare_none {b : Be} {ps : List Pa} (h : greatest b ps = none) : bare b ps = ps := by
  rw [bare]
  split
  · rfl
  · rename_i e; rw [h] at e; cases e
theorem bare_some {b : Be} {ps : List Pa} {p : Pa} (h : greatest b ps = some p) : bare b ps = bare b (without ps p) := by
  rw [bare]
  split
  · rename_i e; rw [h] at e; cases e
  · rename_i e; rw [h] at e; cases e; rfl
variable [Rz]
variable {l : Nat} {S S' : Sto} {b : Be} {ps : List Pa}
/-! ### lists of idle papers -/
end Sp

/-! SqT: what a judge paper would become, as the law says; the law's states kept. -/
namespace Sp
open PySem L2 Z
section
variable {τ : Tau} {S : Sto}
@[simp] theorem x_lstRg1 (a : ME) : mLstRg1 a τ S = (a τ S).bind fun x S1 => match x with
  | .int j => guardR (-(2 ^ 62) ≤ j ∧ j < 2 ^ 62 ∧ j.toNat ≤ 2 ^ 24) (.ok (.lst ((rgI 0 j).map Z.D.int)) S1)
  | _ => .bad := rfl
@[simp] theorem x_lstRg3 (ms : MA) : mLstRg3 ms τ S = (ms τ S).bind fun ds S1 => match ds with
  | [.int i, .int j, .int c] => guardR (StepOk i j c) (.ok (.lst ((rgcI i j c).map Z.D.int)) S1)
  | _ => .bad := rfl
end
variable [Rz]
variable {l f m : Nat} {S S' : Sto} {Q : Z.D → Sto → Prop} {b : Be} {ps : List Pa} {st : St} {sd : Z.D}
/-- the law's states, kept where the pen works on -/
structure LS (l f m : Nat) (b : Be) (ps : List Pa) (rs : List Z.D) (S : Sto) : Prop where
  lm : l < m
  fl : f ≠ l
  at_ : S[f]? = some (.lst rs)
  ln : rs.length = 61
  rd : RdsL S m b ps rs
  pen : Pen l S
theorem LS.pf {rs : List Z.D} (h : LS l f m b ps rs S) (p : PF l S S') : LS l f m b ps rs S' :=
  { h with
    at_ := p.at h.at_ h.fl
    rd := fun i r hi => (h.rd i r hi).keep fun j hj hl => p.eq j hl (by have := h.lm; omega)
    pen := p.pen }
theorem LS.fr {rs : List Z.D} (h : LS l f m b ps rs S) (p : Fr S.length S S') : LS l f m b ps rs S' := h.pf (PF.fr h.pen p)
/-- the state of a day -/
theorem LS.get {rs : List Z.D} (h : LS l f m b ps rs S) {d : Int} (hd : 0 ≤ d ∧ d ≤ 60) : ∃ sd, dIxA (.loc f) (.int d) S = .ok sd S ∧ RdL S m sd (reading b (upto ps d)) := by
  obtain ⟨k, rfl⟩ : ∃ k : Nat, d = k := ⟨d.toNat, by omega⟩
  have hk : k < rs.length := by have := h.ln; omega
  refine ⟨rs[k], ?_, h.rd k _ (List.getElem?_eq_getElem hk)⟩
  rw [x_ixLl h.at_, Z.atI_nat hk, List.getElem?_eq_getElem hk]
  rfl
end Sp

/-! SrP: papers that lead a cause to a word; outcomes, standing, taken_back. -/
namespace Sp
open PySem L2 Z
section
variable {b : Be}
end
variable [Rz]
variable {S S' : Sto} {b : Be} {ps : List Pa}
end Sp

/-! SsA: bare rolls and paths, in plain Lean. -/
namespace Sp
open PySem L2 Z
section
variable {b : Be} {ps qs : List Pa}
theorem bare_sub : ∀ ps : List Pa, ∀ p ∈ bare b ps, p ∈ ps := fun ps => by
  induction ps using bare.induct (b := b) with
  | case1 ps e => rw [bare_none e]; exact fun p h => h
  | case2 ps q e ih => rw [bare_some e]; exact fun p h => (List.mem_filter.mp (ih p h)).1
end
/-! ### paths -/
variable {b : Be} {n h t f l g d : Int}
end Sp

/-! SsB: papers known, as the laws look at them. -/
namespace Sp
open PySem L2 Z
variable [Rz]
variable {S : Sto}
end Sp

/-! SuA: papers as the laws of papers and texts look at them. -/
namespace Sp
open PySem L2 Z
def f5a : List (Key × Z.D) := [(.inr "charge", .lst [.int 5, .int 5, .int 3, .int 3]), (.inr "bill", .lst [.int 5, .int 1]), (.inr "hold", .lst [.int 5]), (.inr "pledge", .lst [.int 5, .int 5]), (.inr "miss", .lst [.int 5]), (.inr "over", .lst [.int 5])]
def f5b : List (Key × Z.D) := [(.inr "move", .lst [.int 5, .int 3]), (.inr "judge", .lst [.int 5, .int 1]), (.inr "pardon", .lst [.int 5, .int 3]), (.inr "aside", .lst [.int 5])]
theorem f5a_ok : dispOk f5a := ⟨by simp [f5a], by simp [f5a, ofString_inj]⟩
theorem f5b_ok : dispOk f5b := ⟨by simp [f5b], by simp [f5b, ofString_inj]⟩
def f5 : List (Key × Z.D) := f5a ++ f5b
theorem f5_merge : mergeG f5a f5b = f5 := by
  simp [mergeG, f5a, f5b, f5, putG, ofString_inj]
theorem f5_eq : f5 = forms.map fun x => ((Sum.inr x.1 : Key), Z.D.lst (x.2.map fun m => .int (m - 1))) := rfl
theorem f5_val (w : Str) : valG f5 (.inr w) = (valG forms w).map fun ms => Z.D.lst (ms.map fun m => .int (m - 1)) := by
  rw [f5_eq]
  exact valG_map (fun x : Str => (Sum.inr x : Key)) (fun ms : List Int => Z.D.lst (ms.map fun m => .int (m - 1))) (fun a b h => Sum.inr.inj h) w forms
variable [Rz]
variable {S : Sto}
theorem forms5 (S : Sto) : V5.m_law_forms [] S = .ok (.loc S.length) (S ++ [.dK false f5]) := by
  have e : (S ++ [C.dK false f5a])[S.length]? = some (.dK false f5a) := by simp
  have hupd : dUpdate (.loc S.length) [.dct [.inr "move", .inr "judge", .inr "pardon", .inr "aside"] [.lst [.int 5, .int 3], .lst [.int 5, .int 1], .lst [.int 5, .int 3], .lst [.int 5]]] (S ++ [.dK false f5a]) = .ok .non (S ++ [.dK false f5]) := by
    have e2 : (S ++ [C.dK false f5a]).set S.length (.dK false f5) = S ++ [.dK false f5] := by simp
    simp only [dUpdate, e]
    show guardR _ (.ok Z.D.non (List.set (S ++ [.dK false f5a]) S.length (.dK false (mergeG f5a f5b)))) = _
    rw [f5_merge, e2]
    simp [guardR, f5a, hz]
  have hty : isTy "dict" (.loc S.length) (S ++ [.dK false f5a]) = true := by simp [isTy]
  have hl : S ++ [.dK false [((.inr "charge" : Key), Z.D.lst [.int 5, .int 5, .int 3, .int 3]), (.inr "bill", .lst [.int 5, .int 1]), (.inr "hold", .lst [.int 5]), (.inr "pledge", .lst [.int 5, .int 5]), (.inr "miss", .lst [.int 5]), (.inr "over", .lst [.int 5])]] = S ++ [.dK false f5a] := rfl
  have k1 : dispOk [((.inr "charge" : Key), Z.D.lst [.int 5, .int 5, .int 3, .int 3]), (.inr "bill", .lst [.int 5, .int 1]), (.inr "hold", .lst [.int 5]), (.inr "pledge", .lst [.int 5, .int 5]), (.inr "miss", .lst [.int 5]), (.inr "over", .lst [.int 5])] := f5a_ok
  have k2 : dispOk [((.inr "move" : Key), Z.D.lst [.int 5, .int 3]), (.inr "judge", .lst [.int 5, .int 1]), (.inr "pardon", .lst [.int 5, .int 3]), (.inr "aside", .lst [.int 5])] := f5b_ok
  refine wp_eq ?_
  unfold V5.m_law_forms
  simp [hz, hl, hty, hupd]
  exact ⟨k1, k2⟩
theorem zip_ints5 (xs : List Z.D) (ms : List Int) (S : Sto) : zipA [.tup xs, .lst (ms.map .int)] S = some ⟨(xs.zip ms).map fun y => .tup [y.1, .int y.2], []⟩ := by
  rw [← zip_ints]; rfl
end Sp

/-! SuB: papers drawn, right and bent; odd things. -/
namespace Sp
open PySem L2 Z
def names5 : List Str := ["charge", "bill", "hold", "pledge", "miss", "over", "move", "judge", "pardon", "aside"]
theorem f5_keys : strKeys f5 = some names5 := by simp [f5, f5a, f5b, strKeys, names5]
theorem mem_sortS {w : Str} : w ∈ sortS names5 ↔ w ∈ names5 := (List.mergeSort_perm names5 leS).mem_iff
theorem len_sortS : (sortS names5).length = 10 := (List.mergeSort_perm names5 leS).length_eq
theorem names_form {w : Str} (h : w ∈ names5) : ∃ ms, valG forms w = some ms := by
  simp only [names5, List.mem_cons, List.not_mem_nil, or_false] at h
  rcases h with rfl | rfl | rfl | rfl | rfl | rfl | rfl | rfl | rfl | rfl <;> exact ⟨_, by simp [forms, valG, ofString_inj]; rfl⟩
theorem forms_pos {w : Str} {ms : List Int} (h : valG forms w = some ms) : (1 ≤ ms.length ∧ ms.length ≤ 4) ∧ ∀ m ∈ ms, 2 ≤ m ∧ m ≤ 6 := by
  have := valG_mem h
  simp only [forms, List.mem_cons, Prod.mk.injEq, List.not_mem_nil, or_false] at this
  rcases this with h | h | h | h | h | h | h | h | h | h <;> rw [h.2] <;> decide
theorem pa_make {w : Str} {ms ns : List Int} {d : Int} (h : valG forms w = some ms) (hd : 0 ≤ d ∧ d ≤ 60) (hl : ns.length = ms.length) (hn : ∀ y ∈ ns.zip ms, 0 ≤ y.1 ∧ y.1 < y.2) : ∃ p, okP p ∧ Z.D.tup (.int d :: .str w :: ns.map .int) = p.D := by
  refine pa_of ?_
  simp only [isPa, h, Bool.and_eq_true, decide_eq_true_eq, List.length_map]
  refine ⟨⟨hl, ?_⟩, ?_⟩
  · simp [num]; omega
  · unfold fits
    rw [List.zip_map_left, List.all_map, List.all_eq_true]
    intro y hy
    have := hn y hy
    simp [num]; omega
variable [Rz]
variable {l : Nat} {S S' : Sto} {Q : Z.D → Sto → Prop}
theorem draw5 {n : Int} (hp : Pen l S) (h0 : 0 < n) (h1 : n < 1073741824) (k : ∀ r S', 0 ≤ r → r < n → PF l S S' → Q (.int r) S') : wpR (V5.m_law_draw [.loc l, .int n] S) Q := draw2 hp h0 h1 k
theorem pen5 {c : Int} (k : ∀ S', PF S.length (S ++ [.lst []]) S' → S'.length = S.length + 1 → Q (.loc S.length) S') : wpR (V5.m_law_pen [.int c] S) Q := pen2 k
theorem cell5 {cs : List Int} {n : Int} (h0 : 0 ≤ n) (k : ∀ c : Int, Q (.int c) S) : wpR (V5.m_law_cell [.scr (cs.map Z.D.int), .int n] S) Q := cell2 h0 k
def AInv (S : Sto) (l f : Nat) (v1 : Option Z.D) (w : Str) (ms : List Int) (as : List Int) (τ : Tau) (S' : Sto) : Prop :=
  ∃ (x : Option Z.D) (pre ns : List Int), τ = [some (.loc l), v1, some (.str w), some (.loc f), x] ∧ ms = pre ++ as ∧ ns.length = pre.length ∧ (∀ y ∈ ns.zip pre, 0 ≤ y.1 ∧ y.1 < y.2) ∧ PF l S S' ∧ S'[f]? = some (.lst (ns.map .int)) ∧ S.length ≤ f
theorem any5 (hp : Pen l S) (k : ∀ p S', okP p → PF l S S' → Q p.D S') : wpR (V5.m_law_any_paper [.loc l] S) Q := by
  have hlS : l < S.length := hp.lt
  have ef := fun S => forms5 S
  have es : dSortK [.loc S.length] (S ++ [.dK false f5]) = .ok (.lst ((sortS names5).map .str)) (S ++ [.dK false f5]) := by
    have e : (S ++ [C.dK false f5])[S.length]? = some (.dK false f5) := by simp
    unfold dSortK
    simp only [e, f5_keys]
    rfl
  unfold V5.m_law_any_paper
  rw [x_run, wpS_seq]
  refine ⟨rfl, ?_⟩
  simp [ef, es, -wpS_seq]
  rw [wpS_seq]
  simp [len_sortS, -wpS_seq]
  refine draw5 (PF.app hp).pen (by decide) (by decide) fun r1 S1 a1 a2 f1 => ?_
  obtain ⟨w, hw, ew⟩ := pickS (ws := sortS names5) a1 (by rw [len_sortS]; exact a2)
  obtain ⟨ms, hms⟩ := names_form (mem_sortS.mp hw)
  obtain ⟨hml, hmp⟩ := forms_pos hms
  simp [ew, -wpS_seq]
  rw [wpS_seq]
  simp [hz, -wpS_seq]
  rw [wpS_seq]
  have g1 : (S1 ++ [C.lst [], C.dK false f5])[S1.length + 1]? = some (.dK false f5) := by simp
  have ev : valG f5 (.inr w) = some (.lst (ms.map fun m => .int (m - 1))) := by rw [f5_val, hms]; rfl
  have ef1 := ef (S1 ++ [.lst []])
  simp only [List.length_append, List.length_cons, List.length_nil, Nat.zero_add, List.append_assoc, List.cons_append, List.nil_append] at ef1
  have F1 := (PF.app (T := [.dK false f5]) hp).trans f1
  have F2 := F1.trans (PF.app (T := [.lst [], .dK false f5]) f1.pen)
  have g0 : (S1 ++ [C.lst [], C.dK false f5])[S1.length]? = some (.lst (([] : List Int).map .int)) := by simp
  have hl1 : l < S1.length := f1.pen.lt
  have hle := F1.len
  simp [ef1, x_ixKS g1, ev, -wpS_seq]
  refine for_src (g := .nm 4) (f := fun m : Int => Z.D.int (m - 1)) (AInv S l S1.length (some (.lst ((sortS names5).map .str))) w ms) (fun _ _ S _ => keep_nil S) ?_ ?_ ms _ _ ⟨none, [], [], rfl, rfl, rfl, fun y hy => (by cases hy), F2, g0, by omega⟩
  · rintro m as τ S2 ⟨x, pre, ns, rfl, e, hl, hz2, F, g, hf⟩
    have hm := hmp m (by rw [e]; simp)
    refine ⟨_, rfl, ?_⟩
    simp [isTy_list g, hz, -wpS_seq]
    refine draw5 F.pen (by omega) (by omega) fun r2 S3 b1 b2 f2 => ?_
    refine draw5 f2.pen (by decide) (by decide) fun r3 S4 c1 c2 f3 => ?_
    obtain ⟨i, hi, ei⟩ := pick (is := [0, m - 1, r2]) c1 (by simpa using c2)
    have hi2 : 0 ≤ i ∧ i < m := by simp at hi; omega
    simp only [List.map_cons, List.map_nil] at ei
    have g' : S4[S1.length]? = some (.lst (ns.map .int)) := f3.at (f2.at g (by omega)) (by omega)
    have hnl : ns.length ≤ 4 := by
      have := congrArg List.length e
      simp at this
      omega
    have ea := app_list (y := .int i) g' (by rw [List.length_map]; omega)
    simp [ei, ea]
    refine ⟨_, pre ++ [m], ns ++ [i], rfl, by simp [e], by simp [hl], ?_, ((F.trans f2).trans f3).set hf (by omega), ?_, hf⟩
    · intro y hy
      rw [List.zip_append hl] at hy
      rcases List.mem_append.mp hy with hy | hy
      · exact hz2 y hy
      · simp at hy; subst hy; exact hi2
    · rw [at_set g']; simp
  · rintro τ S2 ⟨x, pre, ns, rfl, e, hl, hz2, F, g, hf⟩
    have e : ms = pre := by simpa using e
    subst e
    simp [hz, -wpS_seq]
    refine draw5 F.pen (by decide) (by decide) fun r2 S3 b1 b2 f2 => ?_
    refine draw5 f2.pen (by decide) (by decide) fun r3 S4 c1 c2 f3 => ?_
    obtain ⟨i, hi, ei⟩ := pick (is := [0, 60, r2]) c1 (by simpa using c2)
    have hi2 : 0 ≤ i ∧ i ≤ 60 := by simp at hi; omega
    simp only [List.map_cons, List.map_nil] at ei
    have g' : S4[S1.length]? = some (.lst (ns.map .int)) := f3.at (f2.at g (by omega)) (by omega)
    obtain ⟨p, hpo, hpD⟩ := pa_make hms hi2 hl hz2
    have hz3 : 2 + ns.length ≤ 16777216 := by omega
    simp [ei, tupL g', hz, hz3, hpD]
    exact k p S4 hpo ((F.trans f2).trans f3)
end Sp

/-! SuC: papers bent; odd things. -/
namespace Sp
open PySem L2 Z
def atoms (ds : List Z.D) : Prop := ds.length ≤ 6 ∧ ∀ d ∈ ds, Gq [] d = true
variable [Rz]
variable {l : Nat} {S S' : Sto} {Q : Z.D → Sto → Prop}
end Sp

/-! SsC: held on a day; ways out. -/
namespace Sp
open PySem L2 Z
/-- a list of such things, frozen or in its cell -/
def LstIs (S : Sto) (t : Z.D) (ds : List Z.D) : Prop := t = .lst ds ∨ ∃ l, t = .loc l ∧ S[l]? = some (.lst ds)
theorem py_papers (qs : List Pa) : toPyDs (qs.map Pa.D) = some ((qs.map Pa.row).map fun k => .tuple (k.map keyPy)) := by rw [map_D, py_rows]
theorem LstIs.isa {S : Sto} {t : Z.D} {qs : List Pa} (h : LstIs S t (qs.map Pa.D)) : dIsa [t, .ob (.ty "list")] S = .ok (.bl true) S := by
  have e : toPy t S = some (.list ((qs.map Pa.row).map fun k => .tuple (k.map keyPy))) := by
    rcases h with rfl | ⟨l, rfl, h⟩
    · simp only [toPy, toPyD, py_papers, Option.map_some]
    · simp only [toPy, h, py_papers, Option.map_some]
  show (match toPy t S with | some p => _ | none => _) = _
  rw [e]
  rfl
theorem LstIs.len {S : Sto} {t : Z.D} {ds : List Z.D} (h : LstIs S t ds) : dLen [t] S = .ok (.int (ds.length : Int)) S := by
  rcases h with rfl | ⟨l, rfl, h⟩
  · simp [dLen, seqR, listR]
  · simp [dLen, seqR, listR, h]
theorem LstIs.items {S : Sto} {t : Z.D} {ds : List Z.D} (h : LstIs S t ds) : ∃ ks, itemsOf t S = some ⟨ds, ks⟩ ∧ keepOk ks S := by
  rcases h with rfl | ⟨l, rfl, h⟩
  · exact ⟨[], rfl, keep_nil S⟩
  · exact ⟨[(l, .lst ds)], by simp [itemsOf, h], keepOk1.mpr h⟩
theorem LstIs.sl {S : Sto} {t : Z.D} {ds : List Z.D} (h : LstIs S t ds) : dSl t (some 1) none S = .ok (.lst ds.tail) S := by
  rcases h with rfl | ⟨l, rfl, h⟩
  · rw [x_slL, cut_tail]
  · simp [dSl, listR, h, cut_tail]
theorem LstIs.tup {S : Sto} {t : Z.D} {ds : List Z.D} (h : LstIs S t ds) : dTuple [t] S = .ok (.tup ds) S := by
  rcases h with rfl | ⟨l, rfl, h⟩
  · simp [dTuple, listR]
  · simp [dTuple, listR, h]
theorem LstIs.zip {S : Sto} {t : Z.D} {qs : List Pa} (h : LstIs S t (qs.map Pa.D)) : ∃ ks, zipA [t, .lst (qs.map Pa.D).tail] S = some ⟨(qs.zip qs.tail).map fun x => .tup [x.1.D, x.2.D], ks⟩ ∧ keepOk ks S := by
  have e : List.zipWith (fun a b => Z.D.tup [a, b]) (qs.map Pa.D) (qs.map Pa.D).tail = (qs.zip qs.tail).map fun x => .tup [x.1.D, x.2.D] := by rw [← List.map_tail, zip_pa]
  rcases h with rfl | ⟨l, rfl, h⟩
  · exact ⟨[], by rw [← e]; rfl, keep_nil S⟩
  · refine ⟨[(l, .lst (qs.map Pa.D))], ?_, keepOk1.mpr h⟩
    rw [← e]
    simp [zipA, tupR, listR, keepOf, h]
variable [Rz]
variable {S S' : Sto} {b : Be} {ps qs : List Pa} {n d : Int}
end Sp

/-! SsD: out_holds, shortest_out, and the law's look at ways out. -/
namespace Sp
open PySem L2 Z
variable [Rz]
variable {S S' : Sto} {b : Be} {ps qs : List Pa} {n d : Int}
/-! ### the law's look -/
end Sp

/-! SsF: charges that take, and the causes; waits. -/
namespace Sp
open PySem L2 Z
section
variable {b : Be} {sk : List (Pa × Pa)} {dn : List Pa} {D : Int} {k : Nat} {st : St} {p : Pa}
def kb (x : Int × Ca) : Int × Int := (x.1, x.2.born)
end
variable [Rz]
variable {S S' : Sto} {b : Be} {ps : List Pa} {st : St} {r m n0 : Nat} {ℓ : Int → Nat} {sk : List (Pa × Pa)} {dn : List Pa}
end Sp

/-! SsG: comprehensions that allot cells; the shortest way out; a paper laid. -/
namespace Sp
open PySem L2 Z
theorem lc_fr {α : Type} {f : α → Z.D} {g : Tgt} {vs : List Nat} {tm : MT} {e : ME} {τ : Tau} {S0 : Sto} (t : α → Bool) (v : α → Z.D) (as : List α)
    (step : ∀ a ∈ as, ∀ S, Fr S0.length S0 S → ∃ τ1, bindT g (f a) (wipeT τ vs) = some τ1 ∧ wpR (tm τ1 S) fun k S1 => k = t a ∧ Fr S0.length S0 S1 ∧ (t a = true → wpR (e τ1 S1) fun y S2 => y = v a ∧ Fr S0.length S0 S2)) (S : Sto) (hS : Fr S0.length S0 S) :
    wpR (lcL [] g vs tm e (as.map f) τ S) fun ys S' => ys = (as.filter t).map v ∧ Fr S0.length S0 S' := by
  have := lc_wpI (g := g) (vs := vs) (tm := tm) (e := e) (τ := τ) (ks := []) (fun ds acc S => (∃ pre post, as = pre ++ post ∧ ds = post.map f ∧ acc = (pre.filter t).map v) ∧ Fr S0.length S0 S) (fun _ _ S _ => keep_nil S) (fun d ds acc S h => ?_) (as.map f) [] S ⟨⟨[], as, rfl, rfl, rfl⟩, hS⟩
  · refine wpR_imp this fun ys S' ⟨⟨pre, post, h1, h2, h3⟩, h4⟩ => ?_
    have : post = [] := by cases post with | nil => rfl | cons a r => cases h2
    subst this
    rw [List.append_nil] at h1
    subst h1
    rw [List.nil_append] at h3
    exact ⟨h3, h4⟩
  · obtain ⟨⟨pre, post, h1, h2, rfl⟩, h4⟩ := h
    cases post with
    | nil => cases h2
    | cons a post =>
      rw [List.map_cons, List.cons.injEq] at h2
      obtain ⟨rfl, rfl⟩ := h2
      obtain ⟨τ1, e1, w⟩ := step a (by rw [h1]; simp) S h4
      refine ⟨τ1, e1, wpR_imp w fun k S1 ⟨hk, f1, h5⟩ => ⟨fun q => ?_, fun q => ?_⟩⟩
      · subst hk
        refine wpR_imp (h5 q) fun y S2 ⟨hy, f2⟩ => ?_
        subst hy
        exact ⟨⟨pre ++ [a], post, by rw [h1]; simp, rfl, by rw [List.filter_append, List.map_append]; simp [q]⟩, f2⟩
      · subst hk
        exact ⟨⟨pre ++ [a], post, by rw [h1]; simp, rfl, by rw [List.filter_append, List.map_append]; simp [q]⟩, f1⟩
/-! ### rows of three numbers -/
variable [Rz]
variable {l : Nat} {S S' : Sto} {Q : Z.D → Sto → Prop} {b : Be} {ps qs : List Pa} {n d : Int}
end Sp

/-! Z59: a part of a list that may be changed later. -/
namespace Z
open PySem L2
def dSlN (d : D) (lo hi : Option Int) (S : Sto) : R D := match listR d S with
  | some ds => .ok (.loc S.length) (S ++ [.lst (cutD ds lo hi)])
  | none => .bad
def mSlN (m : ME) (lo hi : Option ME) : ME := fun τ S => (m τ S).bind fun d S1 => (mPart lo τ S1).bind fun l S2 => (mPart hi τ S2).bind fun h S3 => dSlN d l h S3
section
variable {X : Cx} {W : WX} {e : Expr} {m : ME} {pos p2 : Pos}
end
section
variable {τ : Tau} {S : Sto}
@[simp] theorem x_slN (m : ME) (lo hi : Option ME) : mSlN m lo hi τ S = (m τ S).bind fun d S1 => (mPart lo τ S1).bind fun l S2 => (mPart hi τ S2).bind fun h S3 => dSlN d l h S3 := rfl
@[simp] theorem x_slNL (ds : List D) (lo hi : Option Int) : dSlN (.lst ds) lo hi S = .ok (.loc S.length) (S ++ [.lst (cutD ds lo hi)]) := rfl
end
end Z

/-! SuD: lists of papers drawn. -/
namespace Sp
open PySem L2 Z
variable {l : Nat} {S S' : Sto} {Q : Z.D → Sto → Prop}
theorem lc_each {g : Tgt} {vs : List Nat} {e : ME} {τ : Tau} {S0 : Sto} (P : Z.D → Prop) (ds : List Z.D) (hp : Pen l S0) (step : ∀ d ∈ ds, ∀ S, PF l S0 S → ∃ τ1, bindT g d (wipeT τ vs) = some τ1 ∧ wpR (e τ1 S) fun y S2 => P y ∧ PF l S0 S2) :
    wpR (lcL [] g vs tYesM e ds τ S0) fun ys S' => ys.length = ds.length ∧ (∀ y ∈ ys, P y) ∧ PF l S0 S' := by
  have := lc_wpI (g := g) (vs := vs) (tm := tYesM) (e := e) (τ := τ) (ks := []) (fun es acc S => (∃ pre, ds = pre ++ es ∧ acc.length = pre.length) ∧ (∀ y ∈ acc, P y) ∧ PF l S0 S) (fun _ _ S _ => keep_nil S) (fun d es acc S h => ?_) ds [] S0 ⟨⟨[], rfl, rfl⟩, fun y hy => (by cases hy), PF.refl hp⟩
  · refine wpR_imp this fun ys S' ⟨⟨pre, h1, h2⟩, h3, h4⟩ => ?_
    rw [List.append_nil] at h1
    subst h1
    rw [List.nil_append] at h2 h3
    exact ⟨h2, h3, h4⟩
  · obtain ⟨⟨pre, h1, h2⟩, h3, h4⟩ := h
    obtain ⟨τ1, e1, w⟩ := step d (by rw [h1]; simp) S h4
    refine ⟨τ1, e1, ?_⟩
    show wpR (Z.R.ok true S) _
    refine ⟨fun _ => wpR_imp w fun y S2 ⟨hy, f2⟩ => ⟨⟨pre ++ [d], by rw [h1]; simp, by simp [h2]⟩, fun z hz => ?_, f2⟩, fun h => (by cases h)⟩
    rcases List.mem_append.mp hz with hz | hz
    · exact h3 z hz
    · simp only [List.mem_singleton] at hz; subst hz; exact hy
theorem pas_of : ∀ {ys : List Z.D}, (∀ y ∈ ys, ∃ p, okP p ∧ y = Pa.D p) → ∃ ps : List Pa, ys = ps.map Pa.D ∧ ∀ p ∈ ps, okP p
  | [], _ => ⟨[], rfl, fun p hp => by cases hp⟩
  | y :: ys, h => by
    obtain ⟨p, hp, rfl⟩ := h y (by simp)
    obtain ⟨ps, rfl, hps⟩ := pas_of (ys := ys) fun z hz => h z (by simp [hz])
    exact ⟨p :: ps, rfl, fun q hq => (List.mem_cons.mp hq).elim (fun e => e ▸ hp) (hps q)⟩
end Sp

/-! SuE: what raises; what is told of it; rows sorted that may stand twice; things that differ from (). -/
namespace Sp
open PySem L2 Z
variable {S S' : Sto}
theorem run_exT {n m : Nat} {b : MS} {ds : List Z.D} {τ' : Tau} {c : Str} {fs : List (Str × Z.D)} (hl : ds.length = n) (h : b (ds.map some ++ List.replicate (m - ds.length) none) S = .ex τ' c fs S') : runD n m b ds S = .ex c fs S' := by
  unfold runD
  rw [if_pos hl, h]
theorem if_exT {t : MT} {a b : MS} {τ : Tau} (h : t τ S = .ok true S') : sIf t a b τ S = a τ S' := by
  unfold sIf; rw [h]; rfl
theorem if_noT {t : MT} {a b : MS} {τ : Tau} (h : t τ S = .ok false S') : sIf t a b τ S = b τ S' := by
  unfold sIf; rw [h]; rfl
theorem seq_nilT {b : MS} {τ : Tau} {a : MS} (h : a τ S = .nx τ S) : sSeq a b τ S = b τ S := by
  unfold sSeq; rw [h]
theorem seq_exS {a b : MS} {τ : Tau} {c : Str} {fs : List (Str × Z.D)} (h : a τ S = .ex τ c fs S') : sSeq a b τ S = .ex τ c fs S' := by
  unfold sSeq; rw [h]
/-! ### told -/
section
variable {Ts : List (Addr × Str)} {i t0 : Nat} {p : Addr × Str} {kf : Str → Option Z.D} {kfx : Str → List (Str × Z.D) → Option Z.D} {m : ME} {τ : Tau} {d dd : Z.D} {c : Str}
theorem wordX_ok (hi : Ts[i]? = some p) (ht : S[t0]? = some (.tab p.1 p.2)) (hm : m τ S = .ok d S') : mWordX Ts i "told" kf kfx m τ S = .ok (.tup [.str "told", d]) S' := by
  have h : p ∈ tabsOf S := mem_tabs.mpr ⟨t0, ht⟩
  unfold mWordX
  simp only [hi, h, if_true, hm]
theorem wordX_xf {q : Str × Z.D} {qs : List (Str × Z.D)} (hi : Ts[i]? = some p) (ht : S[t0]? = some (.tab p.1 p.2)) (hm : m τ S = .ex c (q :: qs) S') (hk : kfx c (q :: qs) = some dd) : mWordX Ts i "told" kf kfx m τ S = .ok dd S' := by
  have h : p ∈ tabsOf S := mem_tabs.mpr ⟨t0, ht⟩
  unfold mWordX
  simp only [hi, h, if_true, hm, hk]
end
/-! ### sorted, rows may stand twice -/
/-! ### the same thing -/
mutual
theorem plain_ndE : ∀ p : PyData, p.hasDict = false → p.plain = true
  | .none, _ => rfl
  | .bool _, _ => rfl
  | .int _, _ => rfl
  | .str _, _ => rfl
  | .list xs, h => by
    simp only [PyData.plain]
    exact plain_ndsE xs (by simpa [PyData.hasDict] using h)
  | .tuple xs, h => by
    simp only [PyData.plain]
    exact plain_ndsE xs (by simpa [PyData.hasDict] using h)
  | .dict _, h => by simp [PyData.hasDict] at h
theorem plain_ndsE : ∀ ps : List PyData, PyData.hasDictAll ps = false → PyData.plainAll ps = true
  | [], _ => rfl
  | p :: ps, h => by
    simp only [PyData.hasDictAll, Bool.or_eq_false_iff] at h
    simp only [PyData.plainAll, plain_ndE p h.1, plain_ndsE ps h.2, Bool.and_self]
end
theorem self_py {ks : List Nat} {e : Z.D} (h : Gq ks e = true) (hk : ks.length ≤ 60) : ∃ p : PyData, toPyD e = some p ∧ plainB p p = true ∧ PyData.eqv p p = true := by
  obtain ⟨p, hp⟩ := Gq_py ks e h
  have hpl := plain_ndE p hp.nd
  have hd : p.depth ≤ 64 := by have := hp.dp; omega
  exact ⟨p, hp.py, by simp [plainB, hpl, hd], PySem.SeqAt.eqv_refl_plain p hpl⟩
end Sp

/-! SwC: texts of any kind: how many parts, how long. -/
namespace Sp
open PySem L2 Z
theorem spl_few {s : Nat} {S : List Nat} : ∀ (l : List Nat) (k : Nat) (acc : List Nat), (TL.spl (s :: S) k acc l).length ≤ 1 + l.count s
  | [], k, acc => by rw [TL.spl_nil]; simp
  | c :: r, 0, acc => by
    cases h : TL.pre (s :: S) (c :: r) with
    | true =>
      rw [TL.spl_hit h]
      have hc : c = s := by
        have h2 := h
        simp only [TL.pre, List.length_cons, List.take_succ_cons, beq_iff_eq, List.cons.injEq] at h2
        exact h2.1
      have := spl_few (s := s) (S := S) r ((s :: S).length - 1) []
      subst hc
      simp only [List.length_cons, List.count_cons_self] at this ⊢
      omega
    | false =>
      rw [TL.spl_miss h]
      have := spl_few (s := s) (S := S) r 0 (acc ++ [c])
      have h2 : r.count s ≤ (c :: r).count s := List.count_le_count_cons
      omega
  | c :: r, k + 1, acc => by
    rw [TL.spl_pass, List.drop_succ_cons, ← TL.spl_pass]
    have := spl_few (s := s) (S := S) r k acc
    have h2 : r.count s ≤ (c :: r).count s := List.count_le_count_cons
    omega
theorem spl_short {S : List Nat} : ∀ (l : List Nat) (k : Nat) (acc : List Nat), ∀ p ∈ TL.spl S k acc l, p.length ≤ acc.length + l.length
  | [], k, acc => by rw [TL.spl_nil]; simp
  | c :: r, 0, acc => by
    intro p hp
    cases h : TL.pre S (c :: r) with
    | true =>
      rw [TL.spl_hit h] at hp
      rcases List.mem_cons.mp hp with rfl | hp
      · omega
      · have := spl_short r _ _ p hp
        simp at this ⊢; omega
    | false =>
      rw [TL.spl_miss h] at hp
      have := spl_short r _ _ p hp
      simp at this ⊢; omega
  | c :: r, k + 1, acc => by
    intro p hp
    rw [TL.spl_pass, List.drop_succ_cons, ← TL.spl_pass] at hp
    have := spl_short r _ _ p hp
    simp at this ⊢; omega
def semis (t : Str) : Nat := (TL.tl t).count 59
theorem split_few (t : Str) : (Txt.split t semi).length ≤ 1 + semis t := by
  have e := TL.split_spl t semi (by decide +kernel) (TL.kind_ok (by decide +kernel))
  have e2 : TL.tl semi = [59, 32] := by decide +kernel
  rw [e2] at e
  have := congrArg List.length e
  rw [List.length_map] at this
  rw [this]
  exact spl_few _ _ _
theorem splitS_few (t : Str) : (Txt.split t spc).length ≤ 1 + t.length := by
  have e := TL.split_spl t spc (by decide +kernel) (TL.kind_ok (by decide +kernel))
  have e2 : TL.tl spc = [32] := by decide +kernel
  rw [e2] at e
  have := congrArg List.length e
  rw [List.length_map] at this
  rw [this]
  have h1 := spl_few (s := 32) (S := []) (TL.tl t) 0 []
  have h2 : (TL.tl t).count 32 ≤ (TL.tl t).length := List.count_le_length
  rw [← TL.len_tl] at h2
  omega
theorem part_short {t y w : Str} (hy : TL.tl y ≠ []) (hk : ¬ Builtin.Str.strKind t < Builtin.Str.strKind y) (h : w ∈ Txt.split t y) : w.length ≤ t.length := by
  have e := TL.split_spl t y hy hk
  have h2 : TL.tl w ∈ (Txt.split t y).map TL.tl := List.mem_map.mpr ⟨w, h, rfl⟩
  rw [e] at h2
  have := spl_short _ _ _ _ h2
  rw [TL.len_tl, TL.len_tl]
  simpa using this
theorem partS_short {t w : Str} (h : w ∈ Txt.split t spc) : w.length ≤ t.length := part_short (by decide +kernel) (TL.kind_ok (by decide +kernel)) h
theorem partR_short {t w : Str} (h : w ∈ Txt.split t semi) : w.length ≤ t.length := part_short (by decide +kernel) (TL.kind_ok (by decide +kernel)) h
/-- a text that is short and has few signs ; -/
structure Tt (n s : Nat) (t : Str) : Prop where
  ln : t.length ≤ n
  sm : semis t ≤ s
  cp : ∀ c ∈ TL.tl t, c < 16 ^ 8
theorem Tt.mono {n s m r : Nat} {t : Str} (h : Tt n s t) (h1 : n ≤ m) (h2 : s ≤ r) : Tt m r t := ⟨Nat.le_trans h.ln h1, Nat.le_trans h.sm h2, h.cp⟩
theorem Tt.app {n s m r : Nat} {t u : Str} (h : Tt n s t) (g : Tt m r u) : Tt (n + m) (s + r) (t ++ u) := ⟨by rw [str_len_app]; have := h.ln; have := g.ln; omega, by
    unfold semis
    rw [TL.tl_append, List.count_append]
    exact Nat.add_le_add h.sm g.sm, fun c hc => by
    rw [TL.tl_append] at hc
    exact (List.mem_append.mp hc).elim (h.cp c) (g.cp c)⟩
theorem Tt.sub {n s : Nat} {t u : Str} (h : Tt n s t) (e : (TL.tl u).Sublist (TL.tl t)) : Tt n s u := ⟨by
    have := e.length_le
    rw [← TL.len_tl, ← TL.len_tl] at this
    exact Nat.le_trans this h.ln, Nat.le_trans (e.count_le _) h.sm, fun c hc => h.cp c (e.subset hc)⟩
end Sp

/-! SwD: a paper looked at, of any length. -/
namespace Sp
open PySem L2 Z
variable [Rz]
theorem paper5_okG {d : Z.D} (h : Has d) (hs : ∀ ds, d = .tup ds → ds.length ≤ 1000000) (S : Sto) : ∃ S', V5.m_law_is_paper [d] S = .ok (.bl (isPa d)) S' ∧ Fr S.length S S' := by
  suffices hh : wpR (V5.m_law_is_paper [d] S) (fun v S' => v = .bl (isPa d) ∧ Fr S.length S S') by
    cases ho : V5.m_law_is_paper [d] S with
    | ok v S' => rw [ho] at hh; obtain ⟨rfl, h⟩ := hh; exact ⟨S', rfl, h⟩
    | ex n fs S' => rw [ho] at hh; exact hh.elim
    | bad => rw [ho] at hh; exact hh.elim
  obtain ⟨p, hp⟩ := h
  have hF := Fr.refl S.length S
  have ef := forms5 S
  unfold V5.m_law_is_paper
  simp [isa_tup hp]
  cases d
  case tup ds =>
    simp only [isTupD]
    have hh := has_tup ⟨p, hp⟩
    match ds, hh with
    | [], _ => simp [isPa]; exact hF
    | [x], _ => simp [isPa]; exact hF
    | x :: y :: r, hh =>
      obtain ⟨py, hy⟩ := hh y (by simp)
      have z2 : ¬ ((r.length : Int) + 1 + 1 < 2) := by omega
      have hsz := hs _ rfl
      simp only [List.length_cons] at hsz
      simp [at0, at1, isa_str hy, z2]
      cases y
      case str w =>
        have g1 : (S ++ [C.dK false f5])[S.length]? = some (.dK false f5) := by simp
        have F : Fr S.length S (S ++ [C.dK false f5]) := Fr.app (Nat.le_refl _)
        have hty : isTy "dict" (.loc S.length) (S ++ [C.dK false f5]) = true := by simp [isTy]
        have hlook : dLook (.loc S.length) (.str w) (S ++ [C.dK false f5]) = some ((valG forms w).map fun ms => Z.D.lst (ms.map fun m => .int (m - 1))) := by rw [look_KS g1, f5_val]
        generalize S ++ [C.dK false f5] = S2 at *
        cases e : valG forms w with
        | none =>
          rw [e] at hlook
          simp [isStrB, isPa, e, ef, hty, hlook, dIsN, Z.isNon]
          exact F
        | some ms =>
          rw [e] at hlook
          have h4 := forms_len e
          have hxx : ∀ u ∈ r, Has u := fun u hu => hh u (by simp [hu])
          have hx0 : Has x := hh x (by simp)
          have hcut1 : cutD (x :: .str w :: r) none (some 1) = [x] := by rw [cut_take (by decide)]; rfl
          have hcut2 : cutD (x :: .str w :: r) (some 2) none = r := cut_fr2
          have hz0 : ms.length ≤ 16777215 := by omega
          by_cases q : r.length = ms.length
          · have q1 : (r.length : Int) + 1 + 1 = 2 + (ms.length : Int) := by omega
            have hz1 : 1 + r.length ≤ 16777216 := by omega
            have hz2 : 1 + ms.length ≤ 16777216 := by omega
            have ez : zipA [.tup (x :: r), .lst (.int 60 :: ms.map fun m => Z.D.int (m - 1))] S2 = some ⟨((x :: r).zip (60 :: ms.map (· - 1))).map fun y => .tup [y.1, .int y.2], []⟩ := by
              have := zip_ints5 (x :: r) (60 :: ms.map (· - 1)) S2
              rw [List.map_cons, List.map_map] at this
              exact this
            have efit : isPa (.tup (x :: .str w :: r)) = ((x :: r).zip (60 :: ms.map (· - 1))).all fun y => num y.1 0 y.2 := by
              simp only [isPa, e, List.zip_cons_cons, List.all_cons, decide_eq_true q, Bool.true_and]
              congr 1
              unfold fits
              rw [List.zip_map_right, List.all_map]
              rfl
            have hl : (((x :: r).zip (60 :: ms.map (· - 1))).map fun y : Z.D × Int => Z.D.tup [y.1, .int y.2]).length ≤ 16777216 := by simp; omega
            have hm : ∀ y ∈ (x :: r).zip (60 :: ms.map (· - 1)), Has y.1 := fun y hu => by
              rcases List.mem_cons.mp (zip_mem1 hu).1 with h | h
              · rw [h]; exact hx0
              · exact hxx _ h
            rw [efit]
            generalize (x :: r).zip (60 :: ms.map (· - 1)) = zs at *
            simp [isStrB, ef, hty, hlook, dIsN, Z.isNon, hcut1, hcut2, hz, hz0, hz1, hz2, q1, ez]
            refine for_find (g := .tp [2, 3]) (f := fun y : Z.D × Int => Z.D.tup [y.1, .int y.2]) (keep_nil S2) (fun y : Z.D × Int => !num y.1 0 y.2) (fun _ => .bl false) (fun τ => ∃ a b, τ = [some (.tup (x :: .str w :: r)), some (.lst (ms.map fun m => Z.D.int (m - 1))), a, b]) zs _ ⟨_, _, rfl⟩ ?_ ?_ ?_
            · rintro ⟨u, m⟩ hu _ ⟨a, b, rfl⟩
              obtain ⟨pu, hpu⟩ := hm _ hu
              refine ⟨[some (.tup (x :: .str w :: r)), some (.lst (ms.map fun m => Z.D.int (m - 1))), some u, some (.int m)], rfl, ?_⟩
              simp [isa_int hpu, isa_bool hpu]
              cases u <;> simp [isIntD, isBlD, num]
              rename_i i
              by_cases q8 : 0 ≤ i <;> by_cases q9 : i ≤ m <;> simp [q8, q9] <;> (intros; omega)
            · rintro h τ ⟨a, b, rfl⟩
              exact ⟨fun a b hab => by simpa using List.find?_eq_none.mp h (a, b) hab, F⟩
            · rintro y h
              have : (zs.all fun y => num y.1 0 y.2) = false := by
                rw [List.all_eq_false]
                exact ⟨y, List.mem_of_find?_eq_some h, by simpa using List.find?_some h⟩
              rw [this]
              exact ⟨rfl, F⟩
          · have e1 : isPa (.tup (x :: .str w :: r)) = false := by
              simp only [isPa, e]
              rw [decide_eq_false q]; rfl
            have q1 : ¬ (r.length : Int) + 1 + 1 = 2 + (ms.length : Int) := by omega
            rw [e1]
            simp [isStrB, ef, hty, hlook, dIsN, Z.isNon, hz, hz0, q1]
            exact F
      all_goals (simp [isStrB, isPa]; exact hF)
  all_goals (simp [isTupD, isPa]; exact hF)
end Sp

/-! what each def does -/
namespace Lk92
open PySem L2 Z Pg V5
instance : Rz := ⟨fun c => sRaise c⟩
/-- what is told of an error of the class c -/
def kfD (c : Str) : Option D := if c = "NoPaper" then some (.tup [.str "paper"]) else none
abbrev tstC : List Str := ["NoBench", "NoPaper", "NoRoll", "NoCause", "NoPerson", "NoDeed", "NoTown", "NoDay", "NoDocket", "NoOrder", "NoWitnesses", "NoWord", "NoAside", "There", "Missing", "NoDeedYet", "NoLine", "NoText", "TooMany"]
abbrev rsdC : List Str := ["NoPaper"]
/-- the same of an error with fields -/
def kfxD (c : Str) (fx : List (Str × D)) : Option D := match fx with
  | [(f0, .int i0)] => if c = "NoText" ∧ f0 = "at" then some (.tup [.str "text", .int i0]) else none
  | _ => none
noncomputable def m_number_in : List D → Sto → R D := runD 1 2 (sSeq (sIf (mOr (mNot (mB (mChain dLe dLe (mC (.int 1)) (mCall dLen (aCons (mVar 0) aNil)) (mC (.int 2))))) (mOr (mNot (mT (mCall dAll (aCons (mComp (iSeq (mVar 0)) (.nm 1) [1] tYesM (mBin dInA (mVar 1) (mC (.str "0123456789")))) aNil)))) (mAnd (mB (mBin dEq (mCall dLen (aCons (mVar 0) aNil)) (mC (.int 2)))) (mB (mBin dEq (mBin dIxA (mVar 0) (mC (.int 0))) (mC (.str "0"))))))) (sRet (mC .non)) sNil)
  (sRet (mCall dIntT (aCons (mVar 0) aNil))))
noncomputable def m_paper_in : List D → Sto → R D := runD 1 5 (sSeq (sAsg 1 (mMeth "str" dSplit (mVar 0) (aCons (mC (.str " ")) aNil)))
  (sSeq (sIf (mOr (mB (mBin dLt (mCall dLen (aCons (mVar 1) aNil)) (mC (.int 2)))) (mB (dKIn true kd_FORMS (mBin dIxA (mVar 1) (mC (.int 1)))))) (sRet (mC .non)) sNil)
  (sSeq (sAsg 2 (mComp (iSeq (mBin dAdd (mSl (mVar 1) none (some (mC (.int 1)))) (mSl (mVar 1) (some (mC (.int 2))) none))) (.nm 4) [4] tYesM (mCall m_number_in (aCons (mVar 4) aNil))))
  (sSeq (sIf (mB (mBin dInA (mC .non) (mVar 2))) (sRet (mC .non)) sNil)
  (sSeq (sAsg 3 (mBin dAdd (mTup (aCons (mBin dIxA (mVar 2) (mC (.int 0))) (aCons (mBin dIxA (mVar 1) (mC (.int 1))) aNil))) (mCall dTuple (aCons (mSl (mVar 2) (some (mC (.int 1))) none) aNil))))
  (sRet (mIf (mT (mCall m_is_paper (aCons (mVar 3) aNil))) (mVar 3) (mC .non))))))))
noncomputable def m_paper_read : List D → Sto → R D := runD 1 2 (sSeq (sIf (mNot (mT (mCall dIsa (aCons (mVar 0) (aCons (mC (.ob (.ty "str"))) aNil))))) (sRaiseF "NoText" ["at"] (aCons (mUn dNeg (mC (.int 1))) aNil)) sNil)
  (sSeq (sAsg 1 (mCall m_paper_in (aCons (mVar 0) aNil)))
  (sSeq (sIf (mB (mBin (dIsN false) (mVar 1) (mC .non))) (sRaiseF "NoText" ["at"] (aCons (mC (.int 0)) aNil)) sNil)
  (sRet (mVar 1)))))
noncomputable def m_roll_read : List D → Sto → R D := runD 1 3 (sSeq (sIf (mNot (mT (mCall dIsa (aCons (mVar 0) (aCons (mC (.ob (.ty "str"))) aNil))))) (sRaiseF "NoText" ["at"] (aCons (mUn dNeg (mC (.int 1))) aNil)) sNil)
  (sSeq (sIf (mB (mBin dEq (mVar 0) (mC (.str "empty")))) (sRet (mTup aNil)) sNil)
  (sSeq (sAsg 1 (mComp (iSeq (mMeth "str" dSplit (mVar 0) (aCons (mC (.str "; ")) aNil))) (.nm 2) [2] tYesM (mCall m_paper_in (aCons (mVar 2) aNil))))
  (sSeq (sIf (mB (mBin dInA (mC .non) (mVar 1))) (sRaiseF "NoText" ["at"] (aCons (mMeth "list" dIndexP (mVar 1) (aCons (mC .non) aNil)) aNil)) sNil)
  (sSeq (sIf (mNot (mT (mCall m_is_roll (aCons (mCall dTuple (aCons (mVar 1) aNil)) aNil)))) (sRaiseF "NoText" ["at"] (aCons (mUn dNeg (mC (.int 1))) aNil)) sNil)
  (sRet (mCall dTuple (aCons (mVar 1) aNil))))))))
noncomputable def m_law_kind (xa : Addr) (xc : Str) : List D → Sto → R D := runD 1 4 (sSeq (sAsg 1 (mLst (aCons (mIsE xa 0 (decide (xc = "NoBench"))) (aCons (mIsE xa 0 (decide (xc = "NoPaper"))) (aCons (mIsE xa 0 (decide (xc = "NoRoll"))) (aCons (mIsE xa 0 (decide (xc = "NoCause"))) aNil))))))
  (sSeq (sAsg 1 (mBin dAdd (mVar 1) (mLst (aCons (mIsE xa 0 (decide (xc = "NoPerson"))) (aCons (mIsE xa 0 (decide (xc = "NoDeed"))) (aCons (mIsE xa 0 (decide (xc = "NoTown"))) (aCons (mIsE xa 0 (decide (xc = "NoDay"))) aNil)))))))
  (sSeq (sAsg 1 (mBin dAdd (mVar 1) (mLst (aCons (mIsE xa 0 (decide (xc = "NoDocket"))) (aCons (mIsE xa 0 (decide (xc = "NoOrder"))) (aCons (mIsE xa 0 (decide (xc = "NoWitnesses"))) aNil))))))
  (sSeq (sAsg 1 (mBin dAdd (mVar 1) (mLst (aCons (mIsE xa 0 (decide (xc = "NoWord"))) (aCons (mIsE xa 0 (decide (xc = "NoAside"))) (aCons (mIsE xa 0 (decide (xc = "There"))) (aCons (mIsE xa 0 (decide (xc = "Missing"))) aNil)))))))
  (sSeq (sAsg 1 (mBin dAdd (mVar 1) (mLst (aCons (mIsE xa 0 (decide (xc = "NoDeedYet"))) (aCons (mIsE xa 0 (decide (xc = "NoLine"))) (aCons (mIsE xa 0 (decide (xc = "NoText"))) (aCons (mIsE xa 0 (decide (xc = "TooMany"))) aNil)))))))
  (sSeq (sIf (mOr (mB (mBin dNe (mMeth "list" dCountP (mVar 1) (aCons (mC (.bl true)) aNil)) (mC (.int 1)))) (mNot (mT (mIsE xa 0 true)))) (sRet (mTup (aCons (mC (.str "other")) aNil))) sNil)
  (sSeq (sAsg 2 (mLst (aCons (mC (.str "bench")) (aCons (mC (.str "paper")) (aCons (mC (.str "roll")) (aCons (mC (.str "cause")) (aCons (mC (.str "person")) (aCons (mC (.str "deed")) (aCons (mC (.str "town")) (aCons (mC (.str "day")) (aCons (mC (.str "docket")) (aCons (mC (.str "order")) (aCons (mC (.str "witnesses")) aNil)))))))))))))
  (sSeq (sAsg 2 (mBin dAdd (mVar 2) (mLst (aCons (mC (.str "word")) (aCons (mC (.str "aside")) (aCons (mC (.str "there")) (aCons (mC (.str "missing")) (aCons (mC (.str "no deed")) (aCons (mC (.str "line")) (aCons (mC (.str "text")) (aCons (mC (.str "many")) aNil)))))))))))
  (sSeq (sAsg 3 (mBin dIxA (mVar 2) (mMeth "list" dIndexP (mVar 1) (aCons (mC (.bl true)) aNil))))
  (sSeq (sIf (mB (mBin dEq (mVar 3) (mC (.str "text")))) (sRet (mTup (aCons (mVar 3) (aCons mBad aNil)))) sNil)
  (sRet (mIf (mB (mBin dEq (mVar 3) (mC (.str "many")))) (mTup (aCons (mVar 3) (aCons mBad (aCons mBad aNil)))) (mTup (aCons (mVar 3) aNil))))))))))))))
noncomputable def m_suite (xa : Addr) (xc : Str) : MS := (sRet (mCall (m_law_kind xa xc) (aCons (mVar 1) aNil)))
noncomputable def m_law_kindX (xa : Addr) (xc : Str) (fx : List (Str × D)) : List D → Sto → R D := runD 1 4 (sSeq (sAsg 1 (mLst (aCons (mIsE xa 0 (decide (xc = "NoBench"))) (aCons (mIsE xa 0 (decide (xc = "NoPaper"))) (aCons (mIsE xa 0 (decide (xc = "NoRoll"))) (aCons (mIsE xa 0 (decide (xc = "NoCause"))) aNil))))))
  (sSeq (sAsg 1 (mBin dAdd (mVar 1) (mLst (aCons (mIsE xa 0 (decide (xc = "NoPerson"))) (aCons (mIsE xa 0 (decide (xc = "NoDeed"))) (aCons (mIsE xa 0 (decide (xc = "NoTown"))) (aCons (mIsE xa 0 (decide (xc = "NoDay"))) aNil)))))))
  (sSeq (sAsg 1 (mBin dAdd (mVar 1) (mLst (aCons (mIsE xa 0 (decide (xc = "NoDocket"))) (aCons (mIsE xa 0 (decide (xc = "NoOrder"))) (aCons (mIsE xa 0 (decide (xc = "NoWitnesses"))) aNil))))))
  (sSeq (sAsg 1 (mBin dAdd (mVar 1) (mLst (aCons (mIsE xa 0 (decide (xc = "NoWord"))) (aCons (mIsE xa 0 (decide (xc = "NoAside"))) (aCons (mIsE xa 0 (decide (xc = "There"))) (aCons (mIsE xa 0 (decide (xc = "Missing"))) aNil)))))))
  (sSeq (sAsg 1 (mBin dAdd (mVar 1) (mLst (aCons (mIsE xa 0 (decide (xc = "NoDeedYet"))) (aCons (mIsE xa 0 (decide (xc = "NoLine"))) (aCons (mIsE xa 0 (decide (xc = "NoText"))) (aCons (mIsE xa 0 (decide (xc = "TooMany"))) aNil)))))))
  (sSeq (sIf (mOr (mB (mBin dNe (mMeth "list" dCountP (mVar 1) (aCons (mC (.bl true)) aNil)) (mC (.int 1)))) (mNot (mT (mIsE xa 0 true)))) (sRet (mTup (aCons (mC (.str "other")) aNil))) sNil)
  (sSeq (sAsg 2 (mLst (aCons (mC (.str "bench")) (aCons (mC (.str "paper")) (aCons (mC (.str "roll")) (aCons (mC (.str "cause")) (aCons (mC (.str "person")) (aCons (mC (.str "deed")) (aCons (mC (.str "town")) (aCons (mC (.str "day")) (aCons (mC (.str "docket")) (aCons (mC (.str "order")) (aCons (mC (.str "witnesses")) aNil)))))))))))))
  (sSeq (sAsg 2 (mBin dAdd (mVar 2) (mLst (aCons (mC (.str "word")) (aCons (mC (.str "aside")) (aCons (mC (.str "there")) (aCons (mC (.str "missing")) (aCons (mC (.str "no deed")) (aCons (mC (.str "line")) (aCons (mC (.str "text")) (aCons (mC (.str "many")) aNil)))))))))))
  (sSeq (sAsg 3 (mBin dIxA (mVar 2) (mMeth "list" dIndexP (mVar 1) (aCons (mC (.bl true)) aNil))))
  (sSeq (sIf (mB (mBin dEq (mVar 3) (mC (.str "text")))) (sRet (mTup (aCons (mVar 3) (aCons (mXf xa 0 "at" fx) aNil)))) sNil)
  (sRet (mIf (mB (mBin dEq (mVar 3) (mC (.str "many")))) (mTup (aCons (mVar 3) (aCons (mXf xa 0 "many" fx) (aCons (mXf xa 0 "most" fx) aNil)))) (mTup (aCons (mVar 3) aNil))))))))))))))
noncomputable def m_suiteX (xa : Addr) (xc : Str) (fx : List (Str × D)) : MS := (sRet (mCall (m_law_kindX xa xc fx) (aCons (mVar 1) aNil)))
noncomputable def m_law_text : List D → Sto → R D := runD 1 2 (sRet (mMeth "str" dJoin (mC (.str " ")) (aCons (mComp (iSeq (mVar 0)) (.nm 1) [1] tYesM (mCall dStr (aCons (mVar 1) aNil))) aNil)))
noncomputable def m_law_read_paper : List D → Sto → R D := runD 1 6 (sSeq (sAsg 1 (mMeth "str" dSplit (mVar 0) (aCons (mC (.str " ")) aNil)))
  (sSeq (sIf (mB (mBin dLt (mCall dLen (aCons (mVar 1) aNil)) (mC (.int 2)))) (sRet (mC .non)) sNil)
  (sSeq (sAsg 2 (mLstN aNil))
  (sSeq (sFor (iSeq (mBin dAdd (mSl (mVar 1) none (some (mC (.int 1)))) (mSl (mVar 1) (some (mC (.int 2))) none))) (.nm 3) (sSeq (sIf (mOr (mB (mBin dNotInA (mCall dLen (aCons (mVar 3) aNil)) (mTup (aCons (mC (.int 1)) (aCons (mC (.int 2)) aNil))))) (mB (mBin dNe (mComp (iSeq (mVar 3)) (.nm 5) [5] (mB (mBin dNotInA (mVar 5) (mC (.str "0123456789")))) (mVar 5)) (mLst aNil)))) (sRet (mC .non)) sNil)
  (sSeq (sIf (mAnd (mB (mBin dEq (mCall dLen (aCons (mVar 3) aNil)) (mC (.int 2)))) (mB (mBin dEq (mBin dIxA (mVar 3) (mC (.int 0))) (mC (.str "0"))))) (sRet (mC .non)) sNil)
  (sExpr (mMeth "list" dAppend (mVar 2) (aCons (mCall dIntT (aCons (mVar 3) aNil)) aNil))))))
  (sSeq (sAsg 4 (mBin dAdd (mTup (aCons (mBin dIxA (mVar 2) (mC (.int 0))) (aCons (mBin dIxA (mVar 1) (mC (.int 1))) aNil))) (mCall dTuple (aCons (mSl (mVar 2) (some (mC (.int 1))) none) aNil))))
  (sRet (mIf (mT (mCall m_law_is_paper (aCons (mVar 4) aNil))) (mVar 4) (mC .non))))))))
noncomputable def m_law_read_roll : List D → Sto → R D := runD 1 3 (sSeq (sIf (mB (mBin dEq (mVar 0) (mC (.str "empty")))) (sRet (mTup (aCons (mC (.str "told")) (aCons (mTup aNil) aNil)))) sNil)
  (sSeq (sAsg 1 (mComp (iSeq (mMeth "str" dSplit (mVar 0) (aCons (mC (.str "; ")) aNil))) (.nm 2) [2] tYesM (mCall m_law_read_paper (aCons (mVar 2) aNil))))
  (sSeq (sIf (mB (mBin dInA (mC .non) (mVar 1))) (sRet (mTup (aCons (mC (.str "text")) (aCons (mMeth "list" dIndexP (mVar 1) (aCons (mC .non) aNil)) aNil)))) sNil)
  (sSeq (sIf (mOr (mB (mBin dGt (mCall dLen (aCons (mVar 1) aNil)) (mC (.int 24)))) (mB (mBin dNe (mVar 1) (mUn dSortRows (mVar 1))))) (sRet (mTup (aCons (mC (.str "text")) (aCons (mUn dNeg (mC (.int 1))) aNil)))) sNil)
  (sRet (mTup (aCons (mC (.str "told")) (aCons (mCall dTuple (aCons (mVar 1) aNil)) aNil))))))))
noncomputable def m_law_bent : List D → Sto → R D := runD 2 7 (sSeq (sAsg 2 (mC (.str " !\"#$&'()*+,-./0123456789:;<=>?@ABCDEFGHIJKLMNOPQRSTUVWXYZ[\\]^_`abcdefghijklmnopqrstuvwxyz{|}~	\n")))
  (sSeq (sPar [5, 6] (aCons (mCall m_law_draw (aCons (mVar 0) (aCons (mBin dAdd (mCall dLen (aCons (mVar 1) aNil)) (mC (.int 1))) aNil))) (aCons (mBin dIxA (mVar 2) (mCall m_law_draw (aCons (mVar 0) (aCons (mCall dLen (aCons (mVar 2) aNil)) aNil)))) aNil)))
  (sSeq (sAsg 3 (mBin dIxA (mLst (aCons (mC (.str " ")) (aCons (mC (.str "0")) (aCons (mC (.str "1")) (aCons (mC (.str "6")) (aCons (mC (.str ";")) (aCons (mC (.str "00")) (aCons (mC (.str "hold")) (aCons (mC (.str "9")) aNil))))))))) (mCall m_law_draw (aCons (mVar 0) (aCons (mC (.int 8)) aNil)))))
  (sSeq (sAsg 4 (mLst (aCons (mBin dAdd (mBin dAdd (mSl (mVar 1) none (some (mVar 5))) (mVar 6)) (mSl (mVar 1) (some (mVar 5)) none)) (aCons (mBin dAdd (mBin dAdd (mSl (mVar 1) none (some (mVar 5))) (mVar 6)) (mSl (mVar 1) (some (mBin dAdd (mVar 5) (mC (.int 1)))) none)) (aCons (mBin dAdd (mSl (mVar 1) none (some (mVar 5))) (mSl (mVar 1) (some (mBin dAdd (mVar 5) (mC (.int 1)))) none)) (aCons (mSl (mVar 1) none (some (mVar 5))) aNil))))))
  (sRet (mBin dIxA (mBin dAdd (mVar 4) (mLst (aCons (mBin dAdd (mBin dAdd (mSl (mVar 1) none (some (mVar 5))) (mVar 3)) (mSl (mVar 1) (some (mVar 5)) none)) (aCons (mBin dAdd (mBin dAdd (mSl (mVar 1) none (some (mVar 5))) (mVar 3)) (mSl (mVar 1) (some (mBin dAdd (mVar 5) (mC (.int 1)))) none)) (aCons (mBin dAdd (mVar 1) (mVar 6)) aNil))))) (mCall m_law_draw (aCons (mVar 0) (aCons (mC (.int 7)) aNil)))))))))
noncomputable def m_law_right (Ts : List (Addr × Str)) (tb : List (Str × (List D → Sto → R D))) : List D → Sto → R D := runD 1 4 (sSeq (sAsg 1 (mCall m_law_read_paper (aCons (mVar 0) aNil)))
  (sSeq (sAsg 2 (mIf (mB (mBin (dIsN false) (mVar 1) (mC .non))) (mTup (aCons (mC (.str "text")) (aCons (mC (.int 0)) aNil))) (mTup (aCons (mC (.str "told")) (aCons (mVar 1) aNil)))))
  (sSeq (sFor (iArgs range1 (aCons (mC (.int 2)) aNil)) (.nm 3) (sSeq (sIf (mAnd (mB (mBin dLt (mCall dLen (aCons (mVar 0) aNil)) (mC (.int 501)))) (mB (mBin dNe (mCall dRepr (aCons (mWordX Ts 0 "told" kfD kfxD (mCall m_paper_read (aCons (mVar 0) aNil))) aNil)) (mCall dRepr (aCons (mVar 2) aNil))))) (sRet (mC (.bl false))) sNil)
  (sIf (mB (mBin dNe (mCall dRepr (aCons (mWordX Ts 0 "told" kfD kfxD (mCall m_roll_read (aCons (mVar 0) aNil))) aNil)) (mCall dRepr (aCons (mCall m_law_read_roll (aCons (mVar 0) aNil)) aNil)))) (sRet (mC (.bl false))) sNil)))
  (sRet (mC (.bl true))))))
noncomputable def m_law (Ts : List (Addr × Str)) (tb : List (Str × (List D → Sto → R D))) : List D → Sto → R D := runD 1 15 (sSeq (sFor (iSeq (mLst (aCons (mC (.str "")) (aCons (mC (.str " ")) (aCons (mC (.str "empty")) (aCons (mC (.str "empty ")) (aCons (mC (.str "0 hold 0; ")) (aCons (mC (.str "0 hold 0;0 hold 1")) (aCons (mC (.str "0 hold 0; empty")) (aCons (mC (.str "; ")) aNil)))))))))) (.nm 1) (sIf (mNot (mT (mCall (m_law_right Ts tb) (aCons (mVar 1) aNil)))) (sRet (mC (.bl false))) sNil))
  (sSeq (sFor (iSeq (mBin dAdd (mLst (aCons (mCall m_law_cell (aCons (mVar 0) (aCons (mC (.int 0)) aNil))) aNil)) (mSl (mVar 0) (some (mC (.int 1))) (some (mC (.int 3)))))) (.nm 2) (sSeq (sAsg 3 (mCall m_law_pen (aCons (mVar 2) aNil)))
  (sSeq (sAsg 4 (mUn dSortRows (mComp (iArgs range1 (aCons (mBin dAdd (mC (.int 25)) (mCall m_law_draw (aCons (mVar 3) (aCons (mC (.int 6)) aNil)))) aNil)) (.nm 14) [14] tYesM (mCall m_law_any_paper (aCons (mVar 3) aNil)))))
  (sSeq (sAsg 5 (mComp (iSeq (mVar 4)) (.nm 12) [12] tYesM (mCall m_law_text (aCons (mVar 12) aNil))))
  (sSeq (sTup [10, 11] (mTup (aCons (mCall m_law_draw (aCons (mVar 3) (aCons (mCall dLen (aCons (mVar 5) aNil)) aNil))) (aCons (mCall m_law_draw (aCons (mVar 3) (aCons (mCall dLen (aCons (mVar 5) aNil)) aNil))) aNil))))
  (sSeq (sAsg 6 (mLstN (aCons (mSl (mVar 5) none (some (mC (.int 24)))) (aCons (mSl (mVar 5) none (some (mC (.int 25)))) (aCons (mBin dAdd (mSl (mVar 5) (some (mVar 10)) none) (mSl (mVar 5) none (some (mVar 10)))) (aCons (mBin dAdd (mBin dAdd (mSl (mVar 5) none (some (mVar 10))) (mSl (mVar 5) (some (mVar 10)) (some (mBin dAdd (mVar 10) (mC (.int 1)))))) (mSl (mVar 5) (some (mVar 10)) (some (mBin dAdd (mVar 10) (mC (.int 5)))))) aNil))))))
  (sSeq (sExpr (mMeth "list" dAppend (mVar 6) (aCons (mBin dAdd (mBin dAdd (mSl (mVar 5) none (some (mVar 10))) (mLst (aCons (mCall m_law_bent (aCons (mVar 3) (aCons (mBin dIxA (mVar 5) (mVar 10)) aNil))) aNil))) (mSl (mVar 5) (some (mBin dAdd (mVar 10) (mC (.int 1)))) (some (mBin dAdd (mVar 10) (mC (.int 4)))))) aNil)))
  (sSeq (sExpr (mMeth "list" dAppend (mVar 6) (aCons (mBin dAdd (mSl (mVar 5) (some (mVar 11)) (some (mBin dAdd (mVar 11) (mC (.int 1))))) (mSl (mVar 5) (some (mVar 10)) (some (mBin dAdd (mVar 10) (mC (.int 2)))))) aNil)))
  (sSeq (sAsg 7 (mBin dAdd (mComp (iSeq (mVar 6)) (.nm 13) [13] tYesM (mMeth "str" dJoin (mC (.str "; ")) (aCons (mVar 13) aNil))) (mComp (iArgs range1 (aCons (mC (.int 8)) aNil)) (.nm 14) [14] tYesM (mCall m_law_bent (aCons (mVar 3) (aCons (mBin dIxA (mVar 5) (mVar 10)) aNil))))))
  (sSeq (sFor (iSeq (mBin dAdd (mVar 7) (mComp (iArgs range1 (aCons (mC (.int 6)) aNil)) (.nm 14) [14] tYesM (mCall m_law_bent (aCons (mVar 3) (aCons (mMeth "str" dJoin (mC (.str "; ")) (aCons (mSl (mVar 5) none (some (mC (.int 5)))) aNil)) aNil)))))) (.nm 1) (sIf (mNot (mT (mCall (m_law_right Ts tb) (aCons (mVar 1) aNil)))) (sRet (mC (.bl false))) sNil))
  (sSeq (sAsg 8 (mCall m_law_odd (aCons (mVar 3) aNil)))
  (sSeq (sAsg 9 (mLstN (aCons (mWordX Ts 1 "told" kfD kfxD (mCall m_paper_read (aCons (mVar 8) aNil))) aNil)))
  (sSeq (sExpr (mMeth "list" dAppend (mVar 9) (aCons (mWordX Ts 1 "told" kfD kfxD (mCall m_roll_read (aCons (mVar 8) aNil))) aNil)))
  (sIf (mAnd (mNot (mT (mCall dIsa (aCons (mVar 8) (aCons (mC (.ob (.ty "str"))) aNil))))) (mB (mBin dNe (mVar 9) (mBin dMulX (mLst (aCons (mTup (aCons (mC (.str "text")) (aCons (mUn dNeg (mC (.int 1))) aNil))) aNil)) (mC (.int 2)))))) (sRet (mC (.bl false))) sNil))))))))))))))
  (sRet (mC (.bl true)))))
noncomputable def tblV : List (Str × (List D → Sto → R D)) := []
end Lk92

/-! what is told of errors -/
namespace Lk92
open PySem L2 Z
theorem kf_cases {c : Str} {dd : D} (h : kfD c = some dd) : (c = "NoPaper" ∧ dd = .tup [.str "paper"]) := by
  unfold kfD at h
  repeat' (split at h)
  all_goals first | (cases h; simp_all; done) | (simp_all; done)
theorem kf_mem {c : Str} {dd : D} (h : kfD c = some dd) : c ∈ rsdC := by
  rcases kf_cases h with ⟨e, _⟩
  all_goals subst e; decide +kernel
theorem x_isE {a : Addr} {b : Bool} {τ : Tau} {S : Sto} (h : τ[0]? = some (some (.ob (.ref a)))) : mIsE a 0 b τ S = .ok (.bl b) S := by
  unfold mIsE
  rw [h]; simp
theorem which_NoPaper (xa : Addr) (S : Sto) : wpR (m_law_kind xa "NoPaper" [.ob (.ref xa)] S) fun d S' => d = .tup [.str "paper"] ∧ S' = S := by
  have hc : ∀ S, dCountP (.lst [D.bl false, D.bl true, D.bl false, D.bl false, D.bl false, D.bl false, D.bl false, D.bl false, D.bl false, D.bl false, D.bl false, D.bl false, D.bl false, D.bl false, D.bl false, D.bl false, D.bl false, D.bl false, D.bl false]) [.bl true] S = .ok (.int 1) S := fun _ => rfl
  have hi : ∀ S, dIndexP (.lst [D.bl false, D.bl true, D.bl false, D.bl false, D.bl false, D.bl false, D.bl false, D.bl false, D.bl false, D.bl false, D.bl false, D.bl false, D.bl false, D.bl false, D.bl false, D.bl false, D.bl false, D.bl false, D.bl false]) [.bl true] S = .ok (.int 1) S := fun _ => rfl
  have hNoBench : decide (("NoPaper" : Str) = "NoBench") = false := by decide +kernel
  have hNoPaper : decide (("NoPaper" : Str) = "NoPaper") = true := by decide +kernel
  have hNoRoll : decide (("NoPaper" : Str) = "NoRoll") = false := by decide +kernel
  have hNoCause : decide (("NoPaper" : Str) = "NoCause") = false := by decide +kernel
  have hNoPerson : decide (("NoPaper" : Str) = "NoPerson") = false := by decide +kernel
  have hNoDeed : decide (("NoPaper" : Str) = "NoDeed") = false := by decide +kernel
  have hNoTown : decide (("NoPaper" : Str) = "NoTown") = false := by decide +kernel
  have hNoDay : decide (("NoPaper" : Str) = "NoDay") = false := by decide +kernel
  have hNoDocket : decide (("NoPaper" : Str) = "NoDocket") = false := by decide +kernel
  have hNoOrder : decide (("NoPaper" : Str) = "NoOrder") = false := by decide +kernel
  have hNoWitnesses : decide (("NoPaper" : Str) = "NoWitnesses") = false := by decide +kernel
  have hNoWord : decide (("NoPaper" : Str) = "NoWord") = false := by decide +kernel
  have hNoAside : decide (("NoPaper" : Str) = "NoAside") = false := by decide +kernel
  have hThere : decide (("NoPaper" : Str) = "There") = false := by decide +kernel
  have hMissing : decide (("NoPaper" : Str) = "Missing") = false := by decide +kernel
  have hNoDeedYet : decide (("NoPaper" : Str) = "NoDeedYet") = false := by decide +kernel
  have hNoLine : decide (("NoPaper" : Str) = "NoLine") = false := by decide +kernel
  have hNoText : decide (("NoPaper" : Str) = "NoText") = false := by decide +kernel
  have hTooMany : decide (("NoPaper" : Str) = "TooMany") = false := by decide +kernel
  have gtext : (("paper" : Str) == "text") = false := by decide +kernel
  have gmany : (("paper" : Str) == "many") = false := by decide +kernel
  have eqS : ∀ (x y : Str) (S : Sto), dEq (.str x) (.str y) S = .ok (.bl (x == y)) S := fun x y S => by
    simp [dDat, toPy, toPyD, plainB, PyData.plain, PyData.depth, PyData.eqv]
  unfold m_law_kind
  simp only [hNoBench, hNoPaper, hNoRoll, hNoCause, hNoPerson, hNoDeed, hNoTown, hNoDay, hNoDocket, hNoOrder, hNoWitnesses, hNoWord, hNoAside, hThere, hMissing, hNoDeedYet, hNoLine, hNoText, hTooMany]
  simp [x_isE, sizeLine_eq, isTy, hc, hi, atI, ixN, eqS, gtext, gmany]
  all_goals (refine ⟨.str "paper", rfl, ?_⟩; simp [eqS, gtext, gmany, sizeLine_eq])
theorem suite_eq {c : Str} {dd : D} (h : kfD c = some dd) (xa : Addr) (S : Sto) : m_suite xa c [none, some (.ob (.ref xa))] S = .rt dd S := by
  rcases kf_cases h with ⟨rfl, rfl⟩
  · have e := wp_eq (which_NoPaper xa S)
    unfold m_suite
    simp [e, sizeLine_eq]
theorem kfx_cases {c : Str} {fx : List (Str × D)} {dd : D} (h : kfxD c fx = some dd) : (c = "NoText" ∧ ∃ i0 : Int, fx = [(("at" : Str), D.int i0)] ∧ dd = D.tup [.str "text", D.int i0]) := by
  unfold kfxD at h
  split at h
  · split at h
    · rename_i e
      obtain ⟨rfl, rfl⟩ := e
      cases h
      exact ⟨rfl, _, rfl, rfl⟩
    · cases h
  · cases h
theorem whichX_NoText (xa : Addr) (i0 : Int) (S : Sto) : wpR (m_law_kindX xa "NoText" [(("at" : Str), D.int i0)] [.ob (.ref xa)] S) fun d S' => d = D.tup [.str "text", D.int i0] ∧ S' = S := by
  have hc : ∀ S, dCountP (.lst [D.bl false, D.bl false, D.bl false, D.bl false, D.bl false, D.bl false, D.bl false, D.bl false, D.bl false, D.bl false, D.bl false, D.bl false, D.bl false, D.bl false, D.bl false, D.bl false, D.bl false, D.bl true, D.bl false]) [.bl true] S = .ok (.int 1) S := fun _ => rfl
  have hi : ∀ S, dIndexP (.lst [D.bl false, D.bl false, D.bl false, D.bl false, D.bl false, D.bl false, D.bl false, D.bl false, D.bl false, D.bl false, D.bl false, D.bl false, D.bl false, D.bl false, D.bl false, D.bl false, D.bl false, D.bl true, D.bl false]) [.bl true] S = .ok (.int 17) S := fun _ => rfl
  have hNoBench : decide (("NoText" : Str) = "NoBench") = false := by decide +kernel
  have hNoPaper : decide (("NoText" : Str) = "NoPaper") = false := by decide +kernel
  have hNoRoll : decide (("NoText" : Str) = "NoRoll") = false := by decide +kernel
  have hNoCause : decide (("NoText" : Str) = "NoCause") = false := by decide +kernel
  have hNoPerson : decide (("NoText" : Str) = "NoPerson") = false := by decide +kernel
  have hNoDeed : decide (("NoText" : Str) = "NoDeed") = false := by decide +kernel
  have hNoTown : decide (("NoText" : Str) = "NoTown") = false := by decide +kernel
  have hNoDay : decide (("NoText" : Str) = "NoDay") = false := by decide +kernel
  have hNoDocket : decide (("NoText" : Str) = "NoDocket") = false := by decide +kernel
  have hNoOrder : decide (("NoText" : Str) = "NoOrder") = false := by decide +kernel
  have hNoWitnesses : decide (("NoText" : Str) = "NoWitnesses") = false := by decide +kernel
  have hNoWord : decide (("NoText" : Str) = "NoWord") = false := by decide +kernel
  have hNoAside : decide (("NoText" : Str) = "NoAside") = false := by decide +kernel
  have hThere : decide (("NoText" : Str) = "There") = false := by decide +kernel
  have hMissing : decide (("NoText" : Str) = "Missing") = false := by decide +kernel
  have hNoDeedYet : decide (("NoText" : Str) = "NoDeedYet") = false := by decide +kernel
  have hNoLine : decide (("NoText" : Str) = "NoLine") = false := by decide +kernel
  have hNoText : decide (("NoText" : Str) = "NoText") = true := by decide +kernel
  have hTooMany : decide (("NoText" : Str) = "TooMany") = false := by decide +kernel
  have g1 : (("text" : Str) == "text") = true := by decide +kernel
  have g2 : (("text" : Str) == "many") = false := by decide +kernel
  have eqS : ∀ (x y : Str) (S : Sto), dEq (.str x) (.str y) S = .ok (.bl (x == y)) S := fun x y S => by
    simp [dDat, toPy, toPyD, plainB, PyData.plain, PyData.depth, PyData.eqv]
  have l0 : List.lookup ("at" : Str) [(("at" : Str), D.int i0)] = some (D.int i0) := by
    kernel_rfl
  have x0 : ∀ τ S, τ[0]? = some (some (.ob (.ref xa))) → mXf xa 0 "at" [(("at" : Str), D.int i0)] τ S = .ok (D.int i0) S := fun τ S h => by
    unfold mXf
    rw [h]
    simp only [if_true, l0, flatD]
  unfold m_law_kindX
  simp only [hNoBench, hNoPaper, hNoRoll, hNoCause, hNoPerson, hNoDeed, hNoTown, hNoDay, hNoDocket, hNoOrder, hNoWitnesses, hNoWord, hNoAside, hThere, hMissing, hNoDeedYet, hNoLine, hNoText, hTooMany]
  simp [x_isE, sizeLine_eq, isTy, hc, hi, atI, ixN, eqS, g1, g2, x0]
theorem suiteX_eq {c : Str} {fx : List (Str × D)} {dd : D} (h : kfxD c fx = some dd) (xa : Addr) (S : Sto) : m_suiteX xa c fx [none, some (.ob (.ref xa))] S = .rt dd S := by
  rcases kfx_cases h with ⟨rfl, i0, rfl, rfl⟩
  · have e := wp_eq (whichX_NoText xa i0 S)
    unfold m_suiteX
    simp [e, sizeLine_eq]
end Lk92

/-! each def keeps it -/
namespace Lk92
open PySem L2 Z Pg V5
def top (i : Nat) : Stmt := PySem.Challenge.pw_ridingbench_k92_texts_that_write_papers.main.body.getD i (.Pass ⟨0, 0, 0, 0⟩)
/-- what stands behind the top -/
structure Tx (Wp : Params) (K : PySem.W.Frag) (mg : Str → Option Value) where
  a_is_within : Addr
  fd_is_within : FuncData
  F_is_within : Fun K "is_within" "is_within" (top 29) a_is_within fd_is_within
  g_is_within : mg "is_within" = some (.ref a_is_within)
  b_is_within : Binds K fd_is_within ["thing", "least", "most"] []
  a_is_upto : Addr
  fd_is_upto : FuncData
  F_is_upto : Fun K "is_upto" "is_upto" (top 30) a_is_upto fd_is_upto
  g_is_upto : mg "is_upto" = some (.ref a_is_upto)
  b_is_upto : Binds K fd_is_upto ["thing", "many"] []
  a_is_paper : Addr
  fd_is_paper : FuncData
  F_is_paper : Fun K "is_paper" "is_paper" (top 31) a_is_paper fd_is_paper
  g_is_paper : mg "is_paper" = some (.ref a_is_paper)
  b_is_paper : Binds K fd_is_paper ["thing"] []
  a_is_roll : Addr
  fd_is_roll : FuncData
  F_is_roll : Fun K "is_roll" "is_roll" (top 32) a_is_roll fd_is_roll
  g_is_roll : mg "is_roll" = some (.ref a_is_roll)
  b_is_roll : Binds K fd_is_roll ["thing"] []
  a_number_in : Addr
  fd_number_in : FuncData
  F_number_in : Fun K "number_in" "number_in" (top 36) a_number_in fd_number_in
  g_number_in : mg "number_in" = some (.ref a_number_in)
  b_number_in : Binds K fd_number_in ["word"] []
  a_paper_in : Addr
  fd_paper_in : FuncData
  F_paper_in : Fun K "paper_in" "paper_in" (top 37) a_paper_in fd_paper_in
  g_paper_in : mg "paper_in" = some (.ref a_paper_in)
  b_paper_in : Binds K fd_paper_in ["part"] []
  a_paper_read : Addr
  fd_paper_read : FuncData
  F_paper_read : Fun K "paper_read" "paper_read" (top 38) a_paper_read fd_paper_read
  g_paper_read : mg "paper_read" = some (.ref a_paper_read)
  b_paper_read : Binds K fd_paper_read ["text"] []
  a_roll_read : Addr
  fd_roll_read : FuncData
  F_roll_read : Fun K "roll_read" "roll_read" (top 39) a_roll_read fd_roll_read
  g_roll_read : mg "roll_read" = some (.ref a_roll_read)
  b_roll_read : Binds K fd_roll_read ["text"] []
  a_law_cell : Addr
  fd_law_cell : FuncData
  F_law_cell : Fun K "_law_cell" "_law_cell" (top 41) a_law_cell fd_law_cell
  g_law_cell : mg "_law_cell" = some (.ref a_law_cell)
  b_law_cell : Binds K fd_law_cell ["_law_script", "_law_k"] []
  a_law_pen : Addr
  fd_law_pen : FuncData
  F_law_pen : Fun K "_law_pen" "_law_pen" (top 42) a_law_pen fd_law_pen
  g_law_pen : mg "_law_pen" = some (.ref a_law_pen)
  b_law_pen : Binds K fd_law_pen ["_law_cell_here"] []
  a_law_draw : Addr
  fd_law_draw : FuncData
  F_law_draw : Fun K "_law_draw" "_law_draw" (top 43) a_law_draw fd_law_draw
  g_law_draw : mg "_law_draw" = some (.ref a_law_draw)
  b_law_draw : Binds K fd_law_draw ["_law_pen_here", "_law_many"] []
  a_law_forms : Addr
  fd_law_forms : FuncData
  F_law_forms : Fun K "_law_forms" "_law_forms" (top 44) a_law_forms fd_law_forms
  g_law_forms : mg "_law_forms" = some (.ref a_law_forms)
  b_law_forms : Binds K fd_law_forms [] []
  a_law_is_paper : Addr
  fd_law_is_paper : FuncData
  F_law_is_paper : Fun K "_law_is_paper" "_law_is_paper" (top 45) a_law_is_paper fd_law_is_paper
  g_law_is_paper : mg "_law_is_paper" = some (.ref a_law_is_paper)
  b_law_is_paper : Binds K fd_law_is_paper ["_law_thing"] []
  a_law_any_paper : Addr
  fd_law_any_paper : FuncData
  F_law_any_paper : Fun K "_law_any_paper" "_law_any_paper" (top 46) a_law_any_paper fd_law_any_paper
  g_law_any_paper : mg "_law_any_paper" = some (.ref a_law_any_paper)
  b_law_any_paper : Binds K fd_law_any_paper ["_law_pen_here"] []
  a_law_odd : Addr
  fd_law_odd : FuncData
  F_law_odd : Fun K "_law_odd" "_law_odd" (top 47) a_law_odd fd_law_odd
  g_law_odd : mg "_law_odd" = some (.ref a_law_odd)
  b_law_odd : Binds K fd_law_odd ["_law_pen_here"] []
  a_law_kind : Addr
  fd_law_kind : FuncData
  F_law_kind : Fun K "_law_kind" "_law_kind" (top 48) a_law_kind fd_law_kind
  g_law_kind : mg "_law_kind" = some (.ref a_law_kind)
  b_law_kind : Binds K fd_law_kind ["_law_e"] []
  a_law_text : Addr
  fd_law_text : FuncData
  F_law_text : Fun K "_law_text" "_law_text" (top 50) a_law_text fd_law_text
  g_law_text : mg "_law_text" = some (.ref a_law_text)
  b_law_text : Binds K fd_law_text ["_law_paper"] []
  a_law_read_paper : Addr
  fd_law_read_paper : FuncData
  F_law_read_paper : Fun K "_law_read_paper" "_law_read_paper" (top 51) a_law_read_paper fd_law_read_paper
  g_law_read_paper : mg "_law_read_paper" = some (.ref a_law_read_paper)
  b_law_read_paper : Binds K fd_law_read_paper ["_law_part"] []
  a_law_read_roll : Addr
  fd_law_read_roll : FuncData
  F_law_read_roll : Fun K "_law_read_roll" "_law_read_roll" (top 52) a_law_read_roll fd_law_read_roll
  g_law_read_roll : mg "_law_read_roll" = some (.ref a_law_read_roll)
  b_law_read_roll : Binds K fd_law_read_roll ["_law_text_here"] []
  a_law_bent : Addr
  fd_law_bent : FuncData
  F_law_bent : Fun K "_law_bent" "_law_bent" (top 53) a_law_bent fd_law_bent
  g_law_bent : mg "_law_bent" = some (.ref a_law_bent)
  b_law_bent : Binds K fd_law_bent ["_law_pen_here", "_law_text_here"] []
  a_law_right : Addr
  fd_law_right : FuncData
  F_law_right : Fun K "_law_right" "_law_right" (top 54) a_law_right fd_law_right
  g_law_right : mg "_law_right" = some (.ref a_law_right)
  b_law_right : Binds K fd_law_right ["_law_text_here"] []
  a_law : Addr
  fd_law : FuncData
  F_law : Fun K "law" "law" (top 55) a_law fd_law
  g_law : mg "law" = some (.ref a_law)
  b_law : Binds K fd_law ["_law_script"] []
  a_law_word : Addr
  fd_law_word : FuncData
  F_law_word : Fun K "_law_word" "_law_word" (top 49) a_law_word fd_law_word
  g_law_word : mg "_law_word" = some (.ref a_law_word)
  b_law_word : Binds K fd_law_word ["_law_call"] []
  e_NoPaper : Addr
  o_NoPaper : Own K "BenchError" tstC "NoPaper" e_NoPaper
  e_NoText : Addr
  x_NoText : OwnX K "BenchError" tstC "NoText" ["at"] e_NoText
  a_NoText_init : Addr
  fd_NoText_init : FuncData
  F_NoText_init : Fun K "__init__" "NoText.__init__" (clsDef (top 19) 0) a_NoText_init fd_NoText_init
  b_NoText_init : Binds K fd_NoText_init ["self", "at"] []
  iC_NoText : PySem.W.findIn K (.ref e_NoText) "__init__" = some (some (.ref a_NoText_init))
  tI_NoText : PySem.W.typeIn K (.ref a_NoText_init) = some (.type "function")
  e_BE : Addr
  g_BE : mg "BenchError" = some (.ref e_BE)
  bi : BaseInit K e_BE
  gc : ∀ c ∈ ("BenchError" : Str) :: tstC, mg c = some (clsAt K c)
  own : ∀ c ∈ rsdC, ∃ C, Own K "BenchError" tstC c C
  cc0 : Addr
  PP0 : Addr
  hcc0 : fd_law_right.code = .ref cc0
  cc1 : Addr
  PP1 : Addr
  hcc1 : fd_law.code = .ref cc1
  n_ValueError : mg "ValueError" = none
  n_all : mg "all" = none
  n_bool : mg "bool" = none
  n_divmod : mg "divmod" = none
  n_int : mg "int" = none
  n_isinstance : mg "isinstance" = none
  n_len : mg "len" = none
  n_max : mg "max" = none
  n_range : mg "range" = none
  n_repr : mg "repr" = none
  n_set : mg "set" = none
  n_sorted : mg "sorted" = none
  n_str : mg "str" = none
  n_tuple : mg "tuple" = none
  n_zip : mg "zip" = none
  c_DAYS : ∃ t, mg "DAYS" = some (.int 61 t)
  c_EMPTY : ∃ t, mg "EMPTY" = some (.str "empty" t)
  c_FIGURES : ∃ t, mg "FIGURES" = some (.str "0123456789" t)
  q_FORMS : Addr
  c_FORMS : mg "FORMS" = some (.ref q_FORMS)
  d_FORMS : KDG Wp K q_FORMS kd_FORMS
  c_MOST_PAPERS : ∃ t, mg "MOST_PAPERS" = some (.int 24 t)
abbrev lamQ0 : Str := (PyProof.Rows.envOfC "_law_right" (defScope (top 54)) 0 0 Value.none).qual ++ ("<lambda>" : Str)
abbrev lamQ1 : Str := (PyProof.Rows.envOfC "law" (defScope (top 55)) 0 0 Value.none).qual ++ ("<lambda>" : Str)
abbrev Tx.cs {Wp : Params} {K : PySem.W.Frag} {mg : Str → Option Value} (T : Tx Wp K mg) : List (Addr × Addr) := [(T.cc0, T.PP0), (T.cc1, T.PP1)]
abbrev Tx.Ts {Wp : Params} {K : PySem.W.Frag} {mg : Str → Option Value} (T : Tx Wp K mg) : List (Addr × Str) := [(T.PP0, lamQ0), (T.PP1, lamQ1)]
section
variable {P : Program} {w : World} {K : PySem.W.Frag} {mg : Str → Option Value} {base : Heap}
abbrev N_NoText_init : List Str := ["self", "at"]
theorem sc_NoText_init : FnScope N_NoText_init ["self", "at"] (defScope (clsDef (top 19) 0)) := ⟨rfl, rfl, rfl, by decide +kernel, rfl, by decide +kernel, by decide +kernel⟩
theorem oi_NoText (T : Tx w.params K mg) : FnOk P w K mg base (L2.CX P w) 1 T.a_NoText_init T.fd_NoText_init ["self", "at"] (fun vs H Q _ => vs.length = 2 ∧ TI1 K "at" { nx := fun _ H' => Q .non H', rt := Q } (L2.start N_NoText_init vs) H) := by
  refine fnL_of (N := N_NoText_init) (k := 0) T.F_NoText_init sc_NoText_init rfl fun cdv A fs s H E hr => ?_
  have sc := sc_NoText_init
  exact PSs_imp (pss_cons (ps_expr (pe_binit rfl T.g_BE T.bi (pa_cons (pv 0) (pa_cons (pv 1) pa_nil)))) (pss_one (ps_ost (pv 0) (pv 1)))) ti1
abbrev N_is_within : List Str := ["thing", "least", "most"]
theorem sc_is_within : FnScope N_is_within ["thing", "least", "most"] (defScope (top 29)) := ⟨rfl, rfl, rfl, by decide +kernel, rfl, by decide +kernel, by decide +kernel⟩
theorem okK_is_within (T : Tx w.params K mg) : FnK P w K mg base 1 T.a_is_within T.fd_is_within ["thing", "least", "most"] m_is_within := by
  refine fnK_of (N := N_is_within) (k := 0) T.F_is_within sc_is_within rfl fun cdv A fs s H E hr => ?_
  have hu := un100 hr
  have sc := sc_is_within
  exact (ss_one (s_ret (v_and (z_blt T.n_isinstance call_isaP dIsa_ok PyProof.Rows.boot_isinstance (a_cons (z_var 0 (pv 0)) (a_cons (z_ty T.n_int PyProof.Rows.boot_int) a_nil))) (v_and (v_not (z_blt T.n_isinstance call_isaP dIsa_ok PyProof.Rows.boot_isinstance (a_cons (z_var 0 (pv 0)) (a_cons (z_ty T.n_bool PyProof.Rows.boot_bool) a_nil)))) (v_and1 (e_chain (c_le hu) (c_le hu) (z_var 1 (pv 1)) (z_var 0 (pv 0)) (z_var 2 (pv 2))))))))
abbrev N_is_upto : List Str := ["thing", "many"]
theorem sc_is_upto : FnScope N_is_upto ["thing", "many"] (defScope (top 30)) := ⟨rfl, rfl, rfl, by decide +kernel, rfl, by decide +kernel, by decide +kernel⟩
theorem okK_is_upto (T : Tx w.params K mg) : FnK P w K mg base 2 T.a_is_upto T.fd_is_upto ["thing", "many"] m_is_upto := by
  refine fnK_of (N := N_is_upto) (k := 1) T.F_is_upto sc_is_upto rfl fun cdv A fs s H E hr => ?_
  have hu := un100 hr
  have sc := sc_is_upto
  exact (ss_one (s_ret (z_callK (okK_is_within T) (hr.mono (by decide)) T.g_is_within T.F_is_within.kp T.b_is_within (passAt (takes_of rfl rfl rfl rfl)) (a_cons (z_var 0 (pv 0)) (a_cons z_int (a_cons (z_sub (z_var 1 (pv 1)) z_int) a_nil))))))
abbrev N_is_paper : List Str := ["thing", "form", "one", "many"]
theorem sc_is_paper : FnScope N_is_paper ["thing"] (defScope (top 31)) := ⟨rfl, rfl, rfl, by decide +kernel, rfl, by decide +kernel, by decide +kernel⟩
theorem okK_is_paper (T : Tx w.params K mg) : FnK P w K mg base 3 T.a_is_paper T.fd_is_paper ["thing"] m_is_paper := by
  refine fnK_of (N := N_is_paper) (k := 2) T.F_is_paper sc_is_paper rfl fun cdv A fs s H E hr => ?_
  have hu := un100 hr
  have sc := sc_is_paper
  exact (ss_cons (s_if (PW.pt (w_or (t_not (t_tru (z_blt T.n_isinstance call_isaP dIsa_ok PyProof.Rows.boot_isinstance (a_cons (z_var 0 (pv 0)) (a_cons (z_ty T.n_tuple PyProof.Rows.boot_tuple) a_nil))))) (w_or (tt_cmp (c_lt hu) (z_blt T.n_len call_len dLen_ok PySem.boot_len (a_cons (z_var 0 (pv 0)) a_nil)) z_int) (w_or1 (t_not (t_tru (z_blt T.n_isinstance call_isaP dIsa_ok PyProof.Rows.boot_isinstance (a_cons (z_ixA hu (z_var 0 (pv 0)) z_int) (a_cons (z_ty T.n_str PyProof.Rows.boot_str) a_nil))))))))) (ss_one (s_ret z_bl)) ss_nil)
  (ss_cons (s_set (i := 1) sc.nd rfl (by first | exact Or.inl rfl | exact Or.inr rfl) (z_kget T.c_FORMS T.d_FORMS (z_ixA hu (z_var 0 (pv 0)) z_int)))
  (ss_cons (s_if (PW.pt (w_or (tt_cmp c_is (z_var 1 (pv 1)) z_non) (w_or (tt_cmp (c_ne hu) (z_blt T.n_len call_len dLen_ok PySem.boot_len (a_cons (z_var 0 (pv 0)) a_nil)) (z_add z_int (z_blt T.n_len call_len dLen_ok PySem.boot_len (a_cons (z_var 1 (pv 1)) a_nil)))) (w_or1 (t_not (t_tru (z_callK (okK_is_upto T) (hr.mono (by decide)) T.g_is_upto T.F_is_upto.kp T.b_is_upto (passAt (takes_of rfl rfl rfl rfl)) (a_cons (z_ixA hu (z_var 0 (pv 0)) z_int) (a_cons (z_gint T.c_DAYS) a_nil))))))))) (ss_one (s_ret z_bl)) ss_nil)
  (ss_one (s_ret (z_blt T.n_all (cr_all rfl) dAll_ok PyProof.Rows.boot_all (a_cons (z_comp (own := [("one", 2), ("many", 3)]) (g := (.tp [2, 3])) rfl sc.nd (i_zipA T.n_zip (a_cons (z_sl (z_var 0 (pv 0)) (o_some z_int) o_none) (a_cons (z_var 1 (pv 1)) a_nil))) (blkOk_by (sc := defScope (top 31)) (N := N_is_paper) (by first | decide +kernel | rfl)) (fun _ _ _ _ _ => (pg_tup rfl (pgs_cons (pg_name (i := 2) sc.nd rfl (by first | exact Or.inl rfl | exact Or.inr rfl)) (pgs_cons (pg_name (i := 3) sc.nd rfl (by first | exact Or.inl rfl | exact Or.inr rfl)) pgs_nil)))) (fun _ _ _ _ _ => ts_nil) (fun _ _ _ _ _ => (z_callK (okK_is_upto T) (hr.mono (by decide)) T.g_is_upto T.F_is_upto.kp T.b_is_upto no_out (a_cons (z_var 2 (pv 2)) (a_cons (z_var 3 (pv 3)) a_nil)))) (by decide)) a_nil)))))))
abbrev N_is_roll : List Str := ["thing", "one", "other"]
theorem sc_is_roll : FnScope N_is_roll ["thing"] (defScope (top 32)) := ⟨rfl, rfl, rfl, by decide +kernel, rfl, by decide +kernel, by decide +kernel⟩
theorem okK_is_roll (T : Tx w.params K mg) : FnK P w K mg base 4 T.a_is_roll T.fd_is_roll ["thing"] m_is_roll := by
  refine fnK_of (N := N_is_roll) (k := 3) T.F_is_roll sc_is_roll rfl fun cdv A fs s H E hr => ?_
  have hu := un100 hr
  have sc := sc_is_roll
  exact (ss_cons (s_if (PW.pt (w_or (t_not (t_tru (z_blt T.n_isinstance call_isaP dIsa_ok PyProof.Rows.boot_isinstance (a_cons (z_var 0 (pv 0)) (a_cons (z_ty T.n_tuple PyProof.Rows.boot_tuple) a_nil))))) (w_or (tt_cmp (c_gt hu) (z_blt T.n_len call_len dLen_ok PySem.boot_len (a_cons (z_var 0 (pv 0)) a_nil)) (z_gint T.c_MOST_PAPERS)) (w_or1 (t_not (t_tru (z_blt T.n_all (cr_all rfl) dAll_ok PyProof.Rows.boot_all (a_cons (z_comp (own := [("one", 1)]) (g := (.nm 1)) rfl sc.nd (i_seq (z_var 0 (pv 0))) (blkOk_by (sc := defScope (top 32)) (N := N_is_roll) (by first | decide +kernel | rfl)) (fun _ _ _ _ _ => (pg_name (i := 1) sc.nd rfl (by first | exact Or.inl rfl | exact Or.inr rfl))) (fun _ _ _ _ _ => ts_nil) (fun _ _ _ _ _ => (z_callK (okK_is_paper T) (hr.mono (by decide)) T.g_is_paper T.F_is_paper.kp T.b_is_paper no_out (a_cons (z_var 1 (pv 1)) a_nil))) (by decide)) a_nil)))))))) (ss_one (s_ret z_bl)) ss_nil)
  (ss_one (s_ret (z_blt T.n_all (cr_all rfl) dAll_ok PyProof.Rows.boot_all (a_cons (z_comp (own := [("one", 1), ("other", 2)]) (g := (.tp [1, 2])) rfl sc.nd (i_zipA T.n_zip (a_cons (z_var 0 (pv 0)) (a_cons (z_sl (z_var 0 (pv 0)) (o_some z_int) o_none) a_nil))) (blkOk_by (sc := defScope (top 32)) (N := N_is_roll) (by first | decide +kernel | rfl)) (fun _ _ _ _ _ => (pg_tup rfl (pgs_cons (pg_name (i := 1) sc.nd rfl (by first | exact Or.inl rfl | exact Or.inr rfl)) (pgs_cons (pg_name (i := 2) sc.nd rfl (by first | exact Or.inl rfl | exact Or.inr rfl)) pgs_nil)))) (fun _ _ _ _ _ => ts_nil) (fun _ _ _ _ _ => (e_cmp (c_lt hu) (z_var 1 (pv 1)) (z_var 2 (pv 2)))) (by decide)) a_nil)))))
abbrev N_number_in : List Str := ["word", "sign"]
theorem sc_number_in : FnScope N_number_in ["word"] (defScope (top 36)) := ⟨rfl, rfl, rfl, by decide +kernel, rfl, by decide +kernel, by decide +kernel⟩
theorem okK_number_in (T : Tx w.params K mg) : FnK P w K mg base 1 T.a_number_in T.fd_number_in ["word"] m_number_in := by
  refine fnK_of (N := N_number_in) (k := 0) T.F_number_in sc_number_in rfl fun cdv A fs s H E hr => ?_
  have hu := un100 hr
  have sc := sc_number_in
  exact (ss_cons (s_if (PW.pt (w_or (t_not (tt_chain (c_le hu) (c_le hu) z_int (z_blt T.n_len call_len dLen_ok PySem.boot_len (a_cons (z_var 0 (pv 0)) a_nil)) z_int)) (w_or (t_not (t_tru (z_blt T.n_all (cr_all rfl) dAll_ok PyProof.Rows.boot_all (a_cons (z_comp (own := [("sign", 1)]) (g := (.nm 1)) rfl sc.nd (i_seq (z_var 0 (pv 0))) (blkOk_by (sc := defScope (top 36)) (N := N_number_in) (by first | decide +kernel | rfl)) (fun _ _ _ _ _ => (pg_name (i := 1) sc.nd rfl (by first | exact Or.inl rfl | exact Or.inr rfl))) (fun _ _ _ _ _ => ts_nil) (fun _ _ _ _ _ => (e_cmp (c_inA (by exact hu)) (z_var 1 (pv 1)) (z_gstr T.c_FIGURES))) (by decide)) a_nil)))) (w_or1 (PW.pt (w_and (tt_cmp (c_eq hu) (z_blt T.n_len call_len dLen_ok PySem.boot_len (a_cons (z_var 0 (pv 0)) a_nil)) z_int) (w_and1 (tt_cmp (c_eq hu) (z_ixA hu (z_var 0 (pv 0)) z_int) z_str)))))))) (ss_one (s_ret z_non)) ss_nil)
  (ss_one (s_ret (z_typ T.n_int call_int_str dIntT_ok PyProof.Rows.boot_int (a_cons (z_var 0 (pv 0)) a_nil)))))
abbrev N_paper_in : List Str := ["part", "words", "numbers", "paper", "word"]
theorem sc_paper_in : FnScope N_paper_in ["part"] (defScope (top 37)) := ⟨rfl, rfl, rfl, by decide +kernel, rfl, by decide +kernel, by decide +kernel⟩
theorem okK_paper_in (T : Tx w.params K mg) : FnK P w K mg base 4 T.a_paper_in T.fd_paper_in ["part"] m_paper_in := by
  refine fnK_of (N := N_paper_in) (k := 3) T.F_paper_in sc_paper_in rfl fun cdv A fs s H E hr => ?_
  have hu := un100 hr
  have sc := sc_paper_in
  exact (ss_cons (s_set (i := 1) sc.nd rfl (by first | exact Or.inl rfl | exact Or.inr rfl) (z_split (z_var 0 (pv 0)) (a_cons z_str a_nil)))
  (ss_cons (s_if (PW.pt (w_or (tt_cmp (c_lt hu) (z_blt T.n_len call_len dLen_ok PySem.boot_len (a_cons (z_var 1 (pv 1)) a_nil)) z_int) (w_or1 (t_knin T.c_FORMS T.d_FORMS (z_ixA hu (z_var 1 (pv 1)) z_int))))) (ss_one (s_ret z_non)) ss_nil)
  (ss_cons (s_setComp (i := 2) (own := [("word", 4)]) (g := (.nm 4)) rfl sc.nd rfl rfl (sw_true rfl rfl rfl (by decide +kernel)) (i_seq (z_add (z_sl (z_var 1 (pv 1)) o_none (o_some z_int)) (z_sl (z_var 1 (pv 1)) (o_some z_int) o_none))) (blkOk_by (sc := defScope (top 37)) (N := N_paper_in) (by first | decide +kernel | rfl)) (fun _ _ _ _ _ => (pg_name (i := 4) sc.nd rfl (by first | exact Or.inl rfl | exact Or.inr rfl))) (fun _ _ _ _ _ => ts_nil) (fun _ _ _ _ _ => (z_callK (okK_number_in T) (hr.mono (by decide)) T.g_number_in T.F_number_in.kp T.b_number_in no_out (a_cons (z_var 4 (pv 4)) a_nil))) (by decide))
  (ss_cons (s_if (tt_cmp (c_inA (by exact hu)) z_non (z_var 2 (pv 2))) (ss_one (s_ret z_non)) ss_nil)
  (ss_cons (s_set (i := 3) sc.nd rfl (by first | exact Or.inl rfl | exact Or.inr rfl) (z_add (z_tup (a_cons (z_ixA hu (z_var 2 (pv 2)) z_int) (a_cons (z_ixA hu (z_var 1 (pv 1)) z_int) a_nil))) (z_typ T.n_tuple call_tuple_of dTuple_ok PyProof.Rows.boot_tuple (a_cons (z_sl (z_var 2 (pv 2)) (o_some z_int) o_none) a_nil))))
  (ss_one (s_ret (z_if (t_tru (z_callK (okK_is_paper T) (hr.mono (by decide)) T.g_is_paper T.F_is_paper.kp T.b_is_paper (passAt (takes_of rfl rfl rfl rfl)) (a_cons (z_var 3 (pv 3)) a_nil))) (z_var 3 (pv 3)) z_non))))))))
abbrev N_paper_read : List Str := ["text", "paper"]
theorem sc_paper_read : FnScope N_paper_read ["text"] (defScope (top 38)) := ⟨rfl, rfl, rfl, by decide +kernel, rfl, by decide +kernel, by decide +kernel⟩
theorem okK_paper_read (T : Tx w.params K mg) : FnK P w K mg base 5 T.a_paper_read T.fd_paper_read ["text"] m_paper_read := by
  refine fnK_of (N := N_paper_read) (k := 4) T.F_paper_read sc_paper_read rfl fun cdv A fs s H E hr => ?_
  have hu := un100 hr
  have sc := sc_paper_read
  exact (ss_cons (s_if (t_not (t_tru (z_blt T.n_isinstance call_isaP dIsa_ok PyProof.Rows.boot_isinstance (a_cons (z_var 0 (pv 0)) (a_cons (z_ty T.n_str PyProof.Rows.boot_str) a_nil))))) (ss_one (s_raise1 T.x_NoText T.iC_NoText T.tI_NoText (oi_NoText T) rfl (hr.mono (by decide)) T.b_NoText_init rfl (takes_of rfl rfl rfl rfl) (T.gc "NoText" (by decide +kernel)) (a_cons (z_neg z_int) a_nil))) ss_nil)
  (ss_cons (s_set (i := 1) sc.nd rfl (by first | exact Or.inl rfl | exact Or.inr rfl) (z_callK (okK_paper_in T) (hr.mono (by decide)) T.g_paper_in T.F_paper_in.kp T.b_paper_in (passAt (takes_of rfl rfl rfl rfl)) (a_cons (z_var 0 (pv 0)) a_nil)))
  (ss_cons (s_if (tt_cmp c_is (z_var 1 (pv 1)) z_non) (ss_one (s_raise1 T.x_NoText T.iC_NoText T.tI_NoText (oi_NoText T) rfl (hr.mono (by decide)) T.b_NoText_init rfl (takes_of rfl rfl rfl rfl) (T.gc "NoText" (by decide +kernel)) (a_cons z_int a_nil))) ss_nil)
  (ss_one (s_ret (z_var 1 (pv 1)))))))
abbrev N_roll_read : List Str := ["text", "papers", "part"]
theorem sc_roll_read : FnScope N_roll_read ["text"] (defScope (top 39)) := ⟨rfl, rfl, rfl, by decide +kernel, rfl, by decide +kernel, by decide +kernel⟩
theorem okK_roll_read (T : Tx w.params K mg) : FnK P w K mg base 5 T.a_roll_read T.fd_roll_read ["text"] m_roll_read := by
  refine fnK_of (N := N_roll_read) (k := 4) T.F_roll_read sc_roll_read rfl fun cdv A fs s H E hr => ?_
  have hu := un100 hr
  have sc := sc_roll_read
  exact (ss_cons (s_if (t_not (t_tru (z_blt T.n_isinstance call_isaP dIsa_ok PyProof.Rows.boot_isinstance (a_cons (z_var 0 (pv 0)) (a_cons (z_ty T.n_str PyProof.Rows.boot_str) a_nil))))) (ss_one (s_raise1 T.x_NoText T.iC_NoText T.tI_NoText (oi_NoText T) rfl (hr.mono (by decide)) T.b_NoText_init rfl (takes_of rfl rfl rfl rfl) (T.gc "NoText" (by decide +kernel)) (a_cons (z_neg z_int) a_nil))) ss_nil)
  (ss_cons (s_if (tt_cmp (c_eq hu) (z_var 0 (pv 0)) (z_gstr T.c_EMPTY)) (ss_one (s_ret (z_tup a_nil))) ss_nil)
  (ss_cons (s_setComp (i := 1) (own := [("part", 2)]) (g := (.nm 2)) rfl sc.nd rfl rfl (sw_true rfl rfl rfl (by decide +kernel)) (i_seq (z_split (z_var 0 (pv 0)) (a_cons z_str a_nil))) (blkOk_by (sc := defScope (top 39)) (N := N_roll_read) (by first | decide +kernel | rfl)) (fun _ _ _ _ _ => (pg_name (i := 2) sc.nd rfl (by first | exact Or.inl rfl | exact Or.inr rfl))) (fun _ _ _ _ _ => ts_nil) (fun _ _ _ _ _ => (z_callK (okK_paper_in T) (hr.mono (by decide)) T.g_paper_in T.F_paper_in.kp T.b_paper_in no_out (a_cons (z_var 2 (pv 2)) a_nil))) (by decide))
  (ss_cons (s_if (tt_cmp (c_inA (by exact hu)) z_non (z_var 1 (pv 1))) (ss_one (s_raise1 T.x_NoText T.iC_NoText T.tI_NoText (oi_NoText T) rfl (hr.mono (by decide)) T.b_NoText_init rfl (takes_of rfl rfl rfl rfl) (T.gc "NoText" (by decide +kernel)) (a_cons (z_m1 PySem.F.plainAttrs_list PySem.F.slot_list_index PySem.F.type_list_index (mt_idxP hu) dIndexP_ok (z_var 1 (pv 1)) (a_cons z_non a_nil)) a_nil))) ss_nil)
  (ss_cons (s_if (t_not (t_tru (z_callK (okK_is_roll T) (hr.mono (by decide)) T.g_is_roll T.F_is_roll.kp T.b_is_roll (passAt (takes_of rfl rfl rfl rfl)) (a_cons (z_typ T.n_tuple call_tuple_of dTuple_ok PyProof.Rows.boot_tuple (a_cons (z_var 1 (pv 1)) a_nil)) a_nil)))) (ss_one (s_raise1 T.x_NoText T.iC_NoText T.tI_NoText (oi_NoText T) rfl (hr.mono (by decide)) T.b_NoText_init rfl (takes_of rfl rfl rfl rfl) (T.gc "NoText" (by decide +kernel)) (a_cons (z_neg z_int) a_nil))) ss_nil)
  (ss_one (s_ret (z_typ T.n_tuple call_tuple_of dTuple_ok PyProof.Rows.boot_tuple (a_cons (z_var 1 (pv 1)) a_nil)))))))))
abbrev N_law_cell : List Str := ["_law_script", "_law_k"]
theorem sc_law_cell : FnScope N_law_cell ["_law_script", "_law_k"] (defScope (top 41)) := ⟨rfl, rfl, rfl, by decide +kernel, rfl, by decide +kernel, by decide +kernel⟩
theorem ok_law_cell (T : Tx w.params K mg) : FnG P w K mg base 1 T.a_law_cell T.fd_law_cell ["_law_script", "_law_k"] m_law_cell := by
  refine fnG_of (N := N_law_cell) (k := 0) T.F_law_cell sc_law_cell rfl fun cdv A fs s H E hr hgd => ?_
  have hu := un100 hr
  have sc := sc_law_cell
  exact (ss_cons (s_if (tt_cmp (c_lt hu) (z_var 1 (pv 1)) (z_blt T.n_len call_len dLen_ok PySem.boot_len (a_cons (z_var 0 (pv 0)) a_nil))) (ss_one (s_ret (z_ixA hu (z_var 0 (pv 0)) (z_var 1 (pv 1))))) ss_nil)
  (ss_one (s_ret z_int)))
abbrev N_law_pen : List Str := ["_law_cell_here", "_law_left"]
theorem sc_law_pen : FnScope N_law_pen ["_law_cell_here"] (defScope (top 42)) := ⟨rfl, rfl, rfl, by decide +kernel, rfl, by decide +kernel, by decide +kernel⟩
theorem ok_law_pen (T : Tx w.params K mg) : FnG P w K mg base 1 T.a_law_pen T.fd_law_pen ["_law_cell_here"] m_law_pen := by
  refine fnG_of (N := N_law_pen) (k := 0) T.F_law_pen sc_law_pen rfl fun cdv A fs s H E hr hgd => ?_
  have hu := un100 hr
  have sc := sc_law_pen
  exact (ss_cons (s_set (i := 1) sc.nd rfl (by first | exact Or.inl rfl | exact Or.inr rfl) (z_blt T.n_max (call_max2 rfl) dMax2_ok PyProof.Rows.boot_max (a_cons (z_var 0 (pv 0)) (a_cons (z_sub z_int (z_var 0 (pv 0))) a_nil))))
  (ss_one (s_ret (z_lstN (a_cons (z_var 1 (pv 1)) (a_cons (z_typ T.n_int call_int1 dInt_ok PyProof.Rows.boot_int (a_cons (e_cmp (c_ge hu) (z_var 1 (pv 1)) (z_pow z_int z_int)) a_nil)) a_nil))))))
abbrev N_law_draw : List Str := ["_law_pen_here", "_law_many", "_law_stir", "_law_left", "_law_got"]
theorem sc_law_draw : FnScope N_law_draw ["_law_pen_here", "_law_many"] (defScope (top 43)) := ⟨rfl, rfl, rfl, by decide +kernel, rfl, by decide +kernel, by decide +kernel⟩
theorem ok_law_draw (T : Tx w.params K mg) : FnG P w K mg base 1 T.a_law_draw T.fd_law_draw ["_law_pen_here", "_law_many"] m_law_draw := by
  refine fnG_of (N := N_law_draw) (k := 0) T.F_law_draw sc_law_draw rfl fun cdv A fs s H E hr hgd => ?_
  have hu := un100 hr
  have sc := sc_law_draw
  exact (ss_cons (s_if (tt_cmp (c_eq hu) (z_ixA hu (z_var 0 (pv 0)) z_int) z_int) (ss_cons (s_tup (is := [3, 4]) (z_blt T.n_divmod call_divmod dDivmod_ok PyProof.Rows.boot_divmod (a_cons (z_ixA hu (z_var 0 (pv 0)) z_int) (a_cons (z_var 1 (pv 1)) a_nil))) (pg_tup rfl (pgs_cons (pg_name (i := 3) sc.nd rfl (by first | exact Or.inl rfl | exact Or.inr rfl)) (pgs_cons (pg_name (i := 4) sc.nd rfl (by first | exact Or.inl rfl | exact Or.inr rfl)) pgs_nil))))
  (ss_cons (s_subA hu (z_var 0 (pv 0)) z_int (z_var 3 (pv 3)))
  (ss_one (s_ret (z_var 4 (pv 4)))))) ss_nil)
  (ss_cons (s_set (i := 2) sc.nd rfl (by first | exact Or.inl rfl | exact Or.inr rfl) (z_mod (z_mul (z_add (z_mod (z_ixA hu (z_var 0 (pv 0)) z_int) z_int) z_int) z_int) z_int))
  (ss_cons (s_set (i := 2) sc.nd rfl (by first | exact Or.inl rfl | exact Or.inr rfl) (z_mod (z_add (z_mul (z_var 2 (pv 2)) (z_var 2 (pv 2))) z_int) z_int))
  (ss_cons (s_subA hu (z_var 0 (pv 0)) z_int (z_mod (z_add (z_mul (z_var 2 (pv 2)) z_int) z_int) z_int))
  (ss_one (s_ret (z_mod (z_fdiv (z_ixA hu (z_var 0 (pv 0)) z_int) z_int) (z_var 1 (pv 1)))))))))
abbrev N_law_forms : List Str := ["_law_forms_here"]
theorem sc_law_forms : FnScope N_law_forms [] (defScope (top 44)) := ⟨rfl, rfl, rfl, by decide +kernel, rfl, by decide +kernel, by decide +kernel⟩
theorem ok_law_forms (T : Tx w.params K mg) : FnG P w K mg base 1 T.a_law_forms T.fd_law_forms [] m_law_forms := by
  refine fnG_of (N := N_law_forms) (k := 0) T.F_law_forms sc_law_forms rfl fun cdv A fs s H E hr hgd => ?_
  have hu := un100 hr
  have sc := sc_law_forms
  exact (ss_cons (s_set (i := 0) sc.nd rfl (by first | exact Or.inl rfl | exact Or.inr rfl) (z_dispN (ps := [((mC (.str "charge")), (mLst (aCons (mC (.int 5)) (aCons (mC (.int 5)) (aCons (mC (.int 3)) (aCons (mC (.int 3)) aNil)))))), ((mC (.str "bill")), (mLst (aCons (mC (.int 5)) (aCons (mC (.int 1)) aNil)))), ((mC (.str "hold")), (mLst (aCons (mC (.int 5)) aNil))), ((mC (.str "pledge")), (mLst (aCons (mC (.int 5)) (aCons (mC (.int 5)) aNil)))), ((mC (.str "miss")), (mLst (aCons (mC (.int 5)) aNil))), ((mC (.str "over")), (mLst (aCons (mC (.int 5)) aNil)))]) (pps1 z_str (z_lst (a_cons z_int (a_cons z_int (a_cons z_int (a_cons z_int a_nil))))) (pps1 z_str (z_lst (a_cons z_int (a_cons z_int a_nil))) (pps1 z_str (z_lst (a_cons z_int a_nil)) (pps1 z_str (z_lst (a_cons z_int (a_cons z_int a_nil))) (pps1 z_str (z_lst (a_cons z_int a_nil)) (pps1 z_str (z_lst (a_cons z_int a_nil)) pps0))))))))
  (ss_cons (s_expr (z_m1 PySem.F.plainAttrs_dict PySem.F.slot_dict_update PySem.F.type_dict_update mt_update dUpdate_ok (z_var 0 (pv 0)) (a_cons (z_disp (ps := [((mC (.str "move")), (mLst (aCons (mC (.int 5)) (aCons (mC (.int 3)) aNil)))), ((mC (.str "judge")), (mLst (aCons (mC (.int 5)) (aCons (mC (.int 1)) aNil)))), ((mC (.str "pardon")), (mLst (aCons (mC (.int 5)) (aCons (mC (.int 3)) aNil)))), ((mC (.str "aside")), (mLst (aCons (mC (.int 5)) aNil)))]) (pps1 z_str (z_lst (a_cons z_int (a_cons z_int a_nil))) (pps1 z_str (z_lst (a_cons z_int (a_cons z_int a_nil))) (pps1 z_str (z_lst (a_cons z_int (a_cons z_int a_nil))) (pps1 z_str (z_lst (a_cons z_int a_nil)) pps0))))) a_nil)))
  (ss_one (s_ret (z_var 0 (pv 0))))))
abbrev N_law_is_paper : List Str := ["_law_thing", "_law_form", "_law_one", "_law_most"]
theorem sc_law_is_paper : FnScope N_law_is_paper ["_law_thing"] (defScope (top 45)) := ⟨rfl, rfl, rfl, by decide +kernel, rfl, by decide +kernel, by decide +kernel⟩
theorem ok_law_is_paper (T : Tx w.params K mg) : FnG P w K mg base 2 T.a_law_is_paper T.fd_law_is_paper ["_law_thing"] m_law_is_paper := by
  refine fnG_of (N := N_law_is_paper) (k := 1) T.F_law_is_paper sc_law_is_paper rfl fun cdv A fs s H E hr hgd => ?_
  have hu := un100 hr
  have sc := sc_law_is_paper
  exact (ss_cons (s_if (PW.pt (w_or (t_not (t_tru (z_blt T.n_isinstance call_isaP dIsa_ok PyProof.Rows.boot_isinstance (a_cons (z_var 0 (pv 0)) (a_cons (z_ty T.n_tuple PyProof.Rows.boot_tuple) a_nil))))) (w_or (tt_cmp (c_lt hu) (z_blt T.n_len call_len dLen_ok PySem.boot_len (a_cons (z_var 0 (pv 0)) a_nil)) z_int) (w_or1 (t_not (t_tru (z_blt T.n_isinstance call_isaP dIsa_ok PyProof.Rows.boot_isinstance (a_cons (z_ixA hu (z_var 0 (pv 0)) z_int) (a_cons (z_ty T.n_str PyProof.Rows.boot_str) a_nil))))))))) (ss_one (s_ret z_bl)) ss_nil)
  (ss_cons (s_set (i := 1) sc.nd rfl (by first | exact Or.inl rfl | exact Or.inr rfl) (z_m1 PySem.F.plainAttrs_dict PySem.F.slot_dict_get PySem.F.type_dict_get (mt_get1 hu) dGet1_ok (z_call0 (ok_law_forms T) (hr.mono (by decide)) hgd T.g_law_forms T.F_law_forms.kp T.b_law_forms (passAt (takes_of rfl rfl rfl rfl))) (a_cons (z_ixA hu (z_var 0 (pv 0)) z_int) a_nil)))
  (ss_cons (s_if (PW.pt (w_or (tt_cmp c_is (z_var 1 (pv 1)) z_non) (w_or1 (tt_cmp (c_ne hu) (z_blt T.n_len call_len dLen_ok PySem.boot_len (a_cons (z_var 0 (pv 0)) a_nil)) (z_add z_int (z_blt T.n_len call_len dLen_ok PySem.boot_len (a_cons (z_var 1 (pv 1)) a_nil))))))) (ss_one (s_ret z_bl)) ss_nil)
  (ss_cons (s_for (g := (.tp [2, 3])) (passes_of rfl) rfl (i_zipA T.n_zip (a_cons (z_add (z_sl (z_var 0 (pv 0)) o_none (o_some z_int)) (z_sl (z_var 0 (pv 0)) (o_some z_int) o_none)) (a_cons (z_add (z_lst (a_cons z_int a_nil)) (z_var 1 (pv 1))) a_nil))) (pg_tup rfl (pgs_cons (pg_name (i := 2) sc.nd rfl (by first | exact Or.inl rfl | exact Or.inr rfl)) (pgs_cons (pg_name (i := 3) sc.nd rfl (by first | exact Or.inl rfl | exact Or.inr rfl)) pgs_nil))) (ss_one (s_if (PW.pt (w_or (t_not (t_tru (z_blt T.n_isinstance call_isaP dIsa_ok PyProof.Rows.boot_isinstance (a_cons (z_var 2 (pv 2)) (a_cons (z_ty T.n_int PyProof.Rows.boot_int) a_nil))))) (w_or (t_tru (z_blt T.n_isinstance call_isaP dIsa_ok PyProof.Rows.boot_isinstance (a_cons (z_var 2 (pv 2)) (a_cons (z_ty T.n_bool PyProof.Rows.boot_bool) a_nil)))) (w_or1 (t_not (tt_chain (c_le hu) (c_le hu) z_int (z_var 2 (pv 2)) (z_var 3 (pv 3)))))))) (ss_one (s_ret z_bl)) ss_nil)))
  (ss_one (s_ret z_bl))))))
abbrev N_law_any_paper : List Str := ["_law_pen_here", "_law_words", "_law_word_here", "_law_behind", "_law_most"]
theorem sc_law_any_paper : FnScope N_law_any_paper ["_law_pen_here"] (defScope (top 46)) := ⟨rfl, rfl, rfl, by decide +kernel, rfl, by decide +kernel, by decide +kernel⟩
theorem ok_law_any_paper (T : Tx w.params K mg) : FnG P w K mg base 2 T.a_law_any_paper T.fd_law_any_paper ["_law_pen_here"] m_law_any_paper := by
  refine fnG_of (N := N_law_any_paper) (k := 1) T.F_law_any_paper sc_law_any_paper rfl fun cdv A fs s H E hr hgd => ?_
  have hu := un100 hr
  have sc := sc_law_any_paper
  exact (ss_cons (s_set (i := 1) sc.nd rfl (by first | exact Or.inl rfl | exact Or.inr rfl) (z_blt T.n_sorted (call_sortedD rfl) dSortK_ok PyProof.Rows.boot_sorted (a_cons (z_call0 (ok_law_forms T) (hr.mono (by decide)) hgd T.g_law_forms T.F_law_forms.kp T.b_law_forms (passAt (takes_of rfl rfl rfl rfl))) a_nil)))
  (ss_cons (s_set (i := 2) sc.nd rfl (by first | exact Or.inl rfl | exact Or.inr rfl) (z_ixA hu (z_var 1 (pv 1)) (z_call (ok_law_draw T) (hr.mono (by decide)) hgd T.g_law_draw T.F_law_draw.kp T.b_law_draw (passAt (takes_of rfl rfl rfl rfl)) (a_cons (z_var 0 (pv 0)) (a_cons (z_blt T.n_len call_len dLen_ok PySem.boot_len (a_cons (z_var 1 (pv 1)) a_nil)) a_nil)))))
  (ss_cons (s_set (i := 3) sc.nd rfl (by first | exact Or.inl rfl | exact Or.inr rfl) (z_lstN a_nil))
  (ss_cons (s_for (g := (.nm 4)) (passes_of rfl) rfl (i_seq (z_ixA hu (z_call0 (ok_law_forms T) (hr.mono (by decide)) hgd T.g_law_forms T.F_law_forms.kp T.b_law_forms (passAt (takes_of rfl rfl rfl rfl))) (z_var 2 (pv 2)))) (pg_name (i := 4) sc.nd rfl (by first | exact Or.inl rfl | exact Or.inr rfl)) (ss_one (s_expr (z_app (z_var 3 (pv 3)) (a_cons (z_ixA hu (z_lst (a_cons z_int (a_cons (z_var 4 (pv 4)) (a_cons (z_call (ok_law_draw T) (hr.mono (by decide)) hgd T.g_law_draw T.F_law_draw.kp T.b_law_draw (passAt (takes_of rfl rfl rfl rfl)) (a_cons (z_var 0 (pv 0)) (a_cons (z_add (z_var 4 (pv 4)) z_int) a_nil))) a_nil)))) (z_call (ok_law_draw T) (hr.mono (by decide)) hgd T.g_law_draw T.F_law_draw.kp T.b_law_draw (passAt (takes_of rfl rfl rfl rfl)) (a_cons (z_var 0 (pv 0)) (a_cons z_int a_nil)))) a_nil)))))
  (ss_one (s_ret (z_add (z_tup (a_cons (z_ixA hu (z_lst (a_cons z_int (a_cons z_int (a_cons (z_call (ok_law_draw T) (hr.mono (by decide)) hgd T.g_law_draw T.F_law_draw.kp T.b_law_draw (passAt (takes_of rfl rfl rfl rfl)) (a_cons (z_var 0 (pv 0)) (a_cons z_int a_nil))) a_nil)))) (z_call (ok_law_draw T) (hr.mono (by decide)) hgd T.g_law_draw T.F_law_draw.kp T.b_law_draw (passAt (takes_of rfl rfl rfl rfl)) (a_cons (z_var 0 (pv 0)) (a_cons z_int a_nil)))) (a_cons (z_var 2 (pv 2)) a_nil))) (z_typ T.n_tuple call_tuple_of dTuple_ok PyProof.Rows.boot_tuple (a_cons (z_var 3 (pv 3)) a_nil)))))))))
abbrev N_law_odd : List Str := ["_law_pen_here", "_law_some"]
theorem sc_law_odd : FnScope N_law_odd ["_law_pen_here"] (defScope (top 47)) := ⟨rfl, rfl, rfl, by decide +kernel, rfl, by decide +kernel, by decide +kernel⟩
theorem ok_law_odd (T : Tx w.params K mg) : FnG P w K mg base 2 T.a_law_odd T.fd_law_odd ["_law_pen_here"] m_law_odd := by
  refine fnG_of (N := N_law_odd) (k := 1) T.F_law_odd sc_law_odd rfl fun cdv A fs s H E hr hgd => ?_
  have hu := un100 hr
  have sc := sc_law_odd
  exact (ss_cons (s_set (i := 1) sc.nd rfl (by first | exact Or.inl rfl | exact Or.inr rfl) (z_lst (a_cons z_non (a_cons z_bl (a_cons z_int (a_cons z_str (a_cons z_str (a_cons (z_lst a_nil) (a_cons z_dict0 (a_cons (z_tup a_nil) (a_cons (z_tup (a_cons z_int a_nil)) (a_cons (z_neg z_int) (a_cons (z_tup (a_cons z_int (a_cons z_int a_nil))) (a_cons (z_lst (a_cons z_int a_nil)) (a_cons z_bl (a_cons (z_tup (a_cons (z_tup a_nil) a_nil)) (a_cons (z_tup (a_cons z_int (a_cons z_str (a_cons z_int a_nil)))) (a_cons z_int (a_cons (z_pow z_int z_int) a_nil)))))))))))))))))))
  (ss_one (s_ret (z_ixA hu (z_var 1 (pv 1)) (z_call (ok_law_draw T) (hr.mono (by decide)) hgd T.g_law_draw T.F_law_draw.kp T.b_law_draw (passAt (takes_of rfl rfl rfl rfl)) (a_cons (z_var 0 (pv 0)) (a_cons z_int a_nil)))))))
abbrev N_law_kind : List Str := ["_law_e", "_law_kinds", "_law_words", "_law_word_here"]
theorem sc_law_kind : FnScope N_law_kind ["_law_e"] (defScope (top 48)) := ⟨rfl, rfl, rfl, by decide +kernel, rfl, by decide +kernel, by decide +kernel⟩
theorem ok_law_kind (T : Tx w.params K mg) {xa C : Addr} {xc : Str} (O : Own K "BenchError" tstC xc C) : FnE P w K mg base 1 T.a_law_kind T.fd_law_kind ["_law_e"] xa C (m_law_kind xa xc) := by
  refine fnE_of (N := N_law_kind) (k := 0) T.F_law_kind sc_law_kind rfl fun cdv A fs s H E oe hr hz hf => ?_
  have hu := un100H hr
  have sc := sc_law_kind
  exact (ss_cons (s_set (i := 1) sc.nd rfl (by first | exact Or.inl rfl | exact Or.inr rfl) (z_lst (a_cons (z_isE O (by decide +kernel) (T.gc "NoBench" (by decide +kernel)) T.n_isinstance hz hf List.mem_cons_self (pv 0)) (a_cons (z_isE O (by decide +kernel) (T.gc "NoPaper" (by decide +kernel)) T.n_isinstance hz hf List.mem_cons_self (pv 0)) (a_cons (z_isE O (by decide +kernel) (T.gc "NoRoll" (by decide +kernel)) T.n_isinstance hz hf List.mem_cons_self (pv 0)) (a_cons (z_isE O (by decide +kernel) (T.gc "NoCause" (by decide +kernel)) T.n_isinstance hz hf List.mem_cons_self (pv 0)) a_nil))))))
  (ss_cons (s_set (i := 1) sc.nd rfl (by first | exact Or.inl rfl | exact Or.inr rfl) (z_add (z_var 1 (pv 1)) (z_lst (a_cons (z_isE O (by decide +kernel) (T.gc "NoPerson" (by decide +kernel)) T.n_isinstance hz hf List.mem_cons_self (pv 0)) (a_cons (z_isE O (by decide +kernel) (T.gc "NoDeed" (by decide +kernel)) T.n_isinstance hz hf List.mem_cons_self (pv 0)) (a_cons (z_isE O (by decide +kernel) (T.gc "NoTown" (by decide +kernel)) T.n_isinstance hz hf List.mem_cons_self (pv 0)) (a_cons (z_isE O (by decide +kernel) (T.gc "NoDay" (by decide +kernel)) T.n_isinstance hz hf List.mem_cons_self (pv 0)) a_nil)))))))
  (ss_cons (s_set (i := 1) sc.nd rfl (by first | exact Or.inl rfl | exact Or.inr rfl) (z_add (z_var 1 (pv 1)) (z_lst (a_cons (z_isE O (by decide +kernel) (T.gc "NoDocket" (by decide +kernel)) T.n_isinstance hz hf List.mem_cons_self (pv 0)) (a_cons (z_isE O (by decide +kernel) (T.gc "NoOrder" (by decide +kernel)) T.n_isinstance hz hf List.mem_cons_self (pv 0)) (a_cons (z_isE O (by decide +kernel) (T.gc "NoWitnesses" (by decide +kernel)) T.n_isinstance hz hf List.mem_cons_self (pv 0)) a_nil))))))
  (ss_cons (s_set (i := 1) sc.nd rfl (by first | exact Or.inl rfl | exact Or.inr rfl) (z_add (z_var 1 (pv 1)) (z_lst (a_cons (z_isE O (by decide +kernel) (T.gc "NoWord" (by decide +kernel)) T.n_isinstance hz hf List.mem_cons_self (pv 0)) (a_cons (z_isE O (by decide +kernel) (T.gc "NoAside" (by decide +kernel)) T.n_isinstance hz hf List.mem_cons_self (pv 0)) (a_cons (z_isE O (by decide +kernel) (T.gc "There" (by decide +kernel)) T.n_isinstance hz hf List.mem_cons_self (pv 0)) (a_cons (z_isE O (by decide +kernel) (T.gc "Missing" (by decide +kernel)) T.n_isinstance hz hf List.mem_cons_self (pv 0)) a_nil)))))))
  (ss_cons (s_set (i := 1) sc.nd rfl (by first | exact Or.inl rfl | exact Or.inr rfl) (z_add (z_var 1 (pv 1)) (z_lst (a_cons (z_isE O (by decide +kernel) (T.gc "NoDeedYet" (by decide +kernel)) T.n_isinstance hz hf List.mem_cons_self (pv 0)) (a_cons (z_isE O (by decide +kernel) (T.gc "NoLine" (by decide +kernel)) T.n_isinstance hz hf List.mem_cons_self (pv 0)) (a_cons (z_isE O (by decide +kernel) (T.gc "NoText" (by decide +kernel)) T.n_isinstance hz hf List.mem_cons_self (pv 0)) (a_cons (z_isE O (by decide +kernel) (T.gc "TooMany" (by decide +kernel)) T.n_isinstance hz hf List.mem_cons_self (pv 0)) a_nil)))))))
  (ss_cons (s_if (PW.pt (w_or (tt_cmp (c_ne hu) (z_m1 PySem.F.plainAttrs_list PySem.F.slot_list_count PySem.F.type_list_count (mt_cntP hu) dCountP_ok (z_var 1 (pv 1)) (a_cons z_bl a_nil)) z_int) (w_or1 (t_not (t_tru (z_isVE O T.n_ValueError T.n_isinstance hz hf List.mem_cons_self (pv 0))))))) (ss_one (s_ret (z_tup (a_cons z_str a_nil)))) ss_nil)
  (ss_cons (s_set (i := 2) sc.nd rfl (by first | exact Or.inl rfl | exact Or.inr rfl) (z_lst (a_cons z_str (a_cons z_str (a_cons z_str (a_cons z_str (a_cons z_str (a_cons z_str (a_cons z_str (a_cons z_str (a_cons z_str (a_cons z_str (a_cons z_str a_nil)))))))))))))
  (ss_cons (s_set (i := 2) sc.nd rfl (by first | exact Or.inl rfl | exact Or.inr rfl) (z_add (z_var 2 (pv 2)) (z_lst (a_cons z_str (a_cons z_str (a_cons z_str (a_cons z_str (a_cons z_str (a_cons z_str (a_cons z_str (a_cons z_str a_nil)))))))))))
  (ss_cons (s_set (i := 3) sc.nd rfl (by first | exact Or.inl rfl | exact Or.inr rfl) (z_ixA hu (z_var 2 (pv 2)) (z_m1 PySem.F.plainAttrs_list PySem.F.slot_list_index PySem.F.type_list_index (mt_idxP hu) dIndexP_ok (z_var 1 (pv 1)) (a_cons z_bl a_nil))))
  (ss_cons (s_if (tt_cmp (c_eq hu) (z_var 3 (pv 3)) z_str) (ss_one (s_ret (z_tup (a_cons (z_var 3 (pv 3)) (a_cons z_bad a_nil))))) ss_nil)
  (ss_one (s_ret (z_if (tt_cmp (c_eq hu) (z_var 3 (pv 3)) z_str) (z_tup (a_cons (z_var 3 (pv 3)) (a_cons z_bad (a_cons z_bad a_nil)))) (z_tup (a_cons (z_var 3 (pv 3)) a_nil)))))))))))))))
abbrev N_law_word : List Str := ["_law_call", "_law_e"]
theorem sc_law_word : FnScope N_law_word ["_law_call"] (defScope (top 49)) := ⟨rfl, rfl, rfl, by decide +kernel, rfl, by decide +kernel, by decide +kernel⟩
theorem suite_ok {X : Cx} (T : Tx X.w.params X.K X.mg) (cdv : Value) (s : Shared) (H : Hp) {n : Nat} (hr : L2H.RoomH n (cxOf C8.CX0 X.prog X.w X.K X.mg X.base N_law_word "_law_word" (defScope (top 49)) T.a_law_word cdv X.A X.stack s H C8.E0).nox.A) (hn : 1 ≤ n := by decide) :
    SuiteOk (cxOf C8.CX0 X.prog X.w X.K X.mg X.base N_law_word "_law_word" (defScope (top 49)) T.a_law_word cdv X.A X.stack s H C8.E0).nox kfD "BenchError" (suiteOf (top 49)) := by
  intro xc dd hk
  obtain ⟨C, O⟩ := T.own xc (kf_mem hk)
  refine ⟨C, O.cls, O.hdl, fun xa oe pn hz hf => ⟨m_suite xa xc, ?_, fun S => suite_eq hk xa S⟩⟩
  have hrS : L2H.RoomH 1 ((cxOf C8.CX0 X.prog X.w X.K X.mg X.base N_law_word "_law_word" (defScope (top 49)) T.a_law_word cdv X.A X.stack s H C8.E0).nox.suite xa ((xa, oe) :: pn)).A := L2H.RoomH.mono ⟨hr.dp, hr.un⟩ hn
  exact (ss_one (s_ret (z_callE (ok_law_kind T O) hz hf List.mem_cons_self hrS T.g_law_kind T.F_law_kind.kp T.b_law_kind (a_cons (z_var 1 (pv 1)) a_nil))))
theorem ok_law_kindX (T : Tx w.params K mg) {xa C : Addr} {xc : Str} {fs : List Str} {fx : List (Str × D)} (O : OwnX K "BenchError" tstC xc fs C) (hno : ∀ f d, fx.lookup f = some d → f ∈ fs) : FnX P w K mg base 1 T.a_law_kind T.fd_law_kind ["_law_e"] xa C fx (m_law_kindX xa xc fx) := by
  refine fnX_of (N := N_law_kind) (k := 0) T.F_law_kind sc_law_kind rfl fun cdv A fr s H E oe od da hr hz hf hbd => ?_
  have hu := un100H hr
  have sc := sc_law_kind
  have hp : ((xa, oe) : Addr × Obj) ∈ [(xa, oe), (da, od)] := by simp
  have hp2 : ((da, od) : Addr × Obj) ∈ [(xa, oe), (da, od)] := by simp
  exact (ss_cons (s_set (i := 1) sc.nd rfl (by first | exact Or.inl rfl | exact Or.inr rfl) (z_lst (a_cons (z_isX O (by decide +kernel) (T.gc "NoBench" (by decide +kernel)) T.n_isinstance hz hf hp hp2 (pv 0)) (a_cons (z_isX O (by decide +kernel) (T.gc "NoPaper" (by decide +kernel)) T.n_isinstance hz hf hp hp2 (pv 0)) (a_cons (z_isX O (by decide +kernel) (T.gc "NoRoll" (by decide +kernel)) T.n_isinstance hz hf hp hp2 (pv 0)) (a_cons (z_isX O (by decide +kernel) (T.gc "NoCause" (by decide +kernel)) T.n_isinstance hz hf hp hp2 (pv 0)) a_nil))))))
  (ss_cons (s_set (i := 1) sc.nd rfl (by first | exact Or.inl rfl | exact Or.inr rfl) (z_add (z_var 1 (pv 1)) (z_lst (a_cons (z_isX O (by decide +kernel) (T.gc "NoPerson" (by decide +kernel)) T.n_isinstance hz hf hp hp2 (pv 0)) (a_cons (z_isX O (by decide +kernel) (T.gc "NoDeed" (by decide +kernel)) T.n_isinstance hz hf hp hp2 (pv 0)) (a_cons (z_isX O (by decide +kernel) (T.gc "NoTown" (by decide +kernel)) T.n_isinstance hz hf hp hp2 (pv 0)) (a_cons (z_isX O (by decide +kernel) (T.gc "NoDay" (by decide +kernel)) T.n_isinstance hz hf hp hp2 (pv 0)) a_nil)))))))
  (ss_cons (s_set (i := 1) sc.nd rfl (by first | exact Or.inl rfl | exact Or.inr rfl) (z_add (z_var 1 (pv 1)) (z_lst (a_cons (z_isX O (by decide +kernel) (T.gc "NoDocket" (by decide +kernel)) T.n_isinstance hz hf hp hp2 (pv 0)) (a_cons (z_isX O (by decide +kernel) (T.gc "NoOrder" (by decide +kernel)) T.n_isinstance hz hf hp hp2 (pv 0)) (a_cons (z_isX O (by decide +kernel) (T.gc "NoWitnesses" (by decide +kernel)) T.n_isinstance hz hf hp hp2 (pv 0)) a_nil))))))
  (ss_cons (s_set (i := 1) sc.nd rfl (by first | exact Or.inl rfl | exact Or.inr rfl) (z_add (z_var 1 (pv 1)) (z_lst (a_cons (z_isX O (by decide +kernel) (T.gc "NoWord" (by decide +kernel)) T.n_isinstance hz hf hp hp2 (pv 0)) (a_cons (z_isX O (by decide +kernel) (T.gc "NoAside" (by decide +kernel)) T.n_isinstance hz hf hp hp2 (pv 0)) (a_cons (z_isX O (by decide +kernel) (T.gc "There" (by decide +kernel)) T.n_isinstance hz hf hp hp2 (pv 0)) (a_cons (z_isX O (by decide +kernel) (T.gc "Missing" (by decide +kernel)) T.n_isinstance hz hf hp hp2 (pv 0)) a_nil)))))))
  (ss_cons (s_set (i := 1) sc.nd rfl (by first | exact Or.inl rfl | exact Or.inr rfl) (z_add (z_var 1 (pv 1)) (z_lst (a_cons (z_isX O (by decide +kernel) (T.gc "NoDeedYet" (by decide +kernel)) T.n_isinstance hz hf hp hp2 (pv 0)) (a_cons (z_isX O (by decide +kernel) (T.gc "NoLine" (by decide +kernel)) T.n_isinstance hz hf hp hp2 (pv 0)) (a_cons (z_isX O (by decide +kernel) (T.gc "NoText" (by decide +kernel)) T.n_isinstance hz hf hp hp2 (pv 0)) (a_cons (z_isX O (by decide +kernel) (T.gc "TooMany" (by decide +kernel)) T.n_isinstance hz hf hp hp2 (pv 0)) a_nil)))))))
  (ss_cons (s_if (PW.pt (w_or (tt_cmp (c_ne hu) (z_m1 PySem.F.plainAttrs_list PySem.F.slot_list_count PySem.F.type_list_count (mt_cntP hu) dCountP_ok (z_var 1 (pv 1)) (a_cons z_bl a_nil)) z_int) (w_or1 (t_not (t_tru (z_isVX O T.n_ValueError T.n_isinstance hz hf hp hp2 (pv 0))))))) (ss_one (s_ret (z_tup (a_cons z_str a_nil)))) ss_nil)
  (ss_cons (s_set (i := 2) sc.nd rfl (by first | exact Or.inl rfl | exact Or.inr rfl) (z_lst (a_cons z_str (a_cons z_str (a_cons z_str (a_cons z_str (a_cons z_str (a_cons z_str (a_cons z_str (a_cons z_str (a_cons z_str (a_cons z_str (a_cons z_str a_nil)))))))))))))
  (ss_cons (s_set (i := 2) sc.nd rfl (by first | exact Or.inl rfl | exact Or.inr rfl) (z_add (z_var 2 (pv 2)) (z_lst (a_cons z_str (a_cons z_str (a_cons z_str (a_cons z_str (a_cons z_str (a_cons z_str (a_cons z_str (a_cons z_str a_nil)))))))))))
  (ss_cons (s_set (i := 3) sc.nd rfl (by first | exact Or.inl rfl | exact Or.inr rfl) (z_ixA hu (z_var 2 (pv 2)) (z_m1 PySem.F.plainAttrs_list PySem.F.slot_list_index PySem.F.type_list_index (mt_idxP hu) dIndexP_ok (z_var 1 (pv 1)) (a_cons z_bl a_nil))))
  (ss_cons (s_if (tt_cmp (c_eq hu) (z_var 3 (pv 3)) z_str) (ss_one (s_ret (z_tup (a_cons (z_var 3 (pv 3)) (a_cons (z_xf O hno hz hf hbd hp hp2 (pv 0)) a_nil))))) ss_nil)
  (ss_one (s_ret (z_if (tt_cmp (c_eq hu) (z_var 3 (pv 3)) z_str) (z_tup (a_cons (z_var 3 (pv 3)) (a_cons (z_xf O hno hz hf hbd hp hp2 (pv 0)) (a_cons (z_xf O hno hz hf hbd hp hp2 (pv 0)) a_nil)))) (z_tup (a_cons (z_var 3 (pv 3)) a_nil)))))))))))))))
theorem suiteX_ok {X : Cx} (T : Tx X.w.params X.K X.mg) (cdv : Value) (s : Shared) (H : Hp) {n : Nat} (hr : L2H.RoomH n (cxOf C8.CX0 X.prog X.w X.K X.mg X.base N_law_word "_law_word" (defScope (top 49)) T.a_law_word cdv X.A X.stack s H C8.E0).nox.A) (hn : 1 ≤ n := by decide) :
    SuiteOkX (cxOf C8.CX0 X.prog X.w X.K X.mg X.base N_law_word "_law_word" (defScope (top 49)) T.a_law_word cdv X.A X.stack s H C8.E0).nox kfxD "BenchError" (suiteOf (top 49)) := by
  intro xc fx dd hk
  obtain ⟨fs, C, O, hno⟩ : ∃ fs C, OwnX X.K "BenchError" tstC xc fs C ∧ ∀ f d, fx.lookup f = some d → f ∈ fs := by
    rcases kfx_cases hk with ⟨rfl, i0, rfl, _⟩
    · exact ⟨_, _, T.x_NoText, fun f d h => by
        have h2 := lookup_key h
        simp only [List.map_cons, List.map_nil, List.mem_cons, List.not_mem_nil, or_false] at h2 ⊢
        first | exact h2 | exact h2.symm⟩
  refine ⟨C, O.cls, O.hdl, fun xa da oe od pn hz hf hbd => ⟨m_suiteX xa xc fx, ?_, fun S => suiteX_eq hk xa S⟩⟩
  have hrS : L2H.RoomH 1 ((cxOf C8.CX0 X.prog X.w X.K X.mg X.base N_law_word "_law_word" (defScope (top 49)) T.a_law_word cdv X.A X.stack s H C8.E0).nox.suite xa ((xa, oe) :: pn ++ [(da, od)])).A := L2H.RoomH.mono ⟨hr.dp, hr.un⟩ hn
  have hp : ((xa, oe) : Addr × Obj) ∈ (xa, oe) :: pn ++ [(da, od)] := by simp
  have hp2 : ((da, od) : Addr × Obj) ∈ (xa, oe) :: pn ++ [(da, od)] := by simp
  exact (ss_one (s_ret (z_callX (ok_law_kindX T O hno) hz hf hbd hp hp2 hrS T.g_law_kind T.F_law_kind.kp T.b_law_kind (a_cons (z_var 1 (pv 1)) a_nil))))
abbrev N_law_text : List Str := ["_law_paper", "_law_thing"]
theorem sc_law_text : FnScope N_law_text ["_law_paper"] (defScope (top 50)) := ⟨rfl, rfl, rfl, by decide +kernel, rfl, by decide +kernel, by decide +kernel⟩
theorem ok_law_text (T : Tx w.params K mg) : FnG P w K mg base 1 T.a_law_text T.fd_law_text ["_law_paper"] m_law_text := by
  refine fnG_of (N := N_law_text) (k := 0) T.F_law_text sc_law_text rfl fun cdv A fs s H E hr hgd => ?_
  have hu := un100 hr
  have sc := sc_law_text
  exact (ss_one (s_ret (z_join z_str (a_cons (z_comp (own := [("_law_thing", 1)]) (g := (.nm 1)) rfl sc.nd (i_seq (z_var 0 (pv 0))) (blkOk_by (sc := defScope (top 50)) (N := N_law_text) (by first | decide +kernel | rfl)) (fun _ _ _ _ _ => (pg_name (i := 1) sc.nd rfl (by first | exact Or.inl rfl | exact Or.inr rfl))) (fun _ _ _ _ _ => ts_nil) (fun _ _ _ _ _ => (z_typ T.n_str call_strA dStr_ok PyProof.Rows.boot_str (a_cons (z_var 1 (pv 1)) a_nil))) (by decide)) a_nil))))
abbrev N_law_read_paper : List Str := ["_law_part", "_law_words", "_law_behind", "_law_word_here", "_law_paper", "_law_sign"]
theorem sc_law_read_paper : FnScope N_law_read_paper ["_law_part"] (defScope (top 51)) := ⟨rfl, rfl, rfl, by decide +kernel, rfl, by decide +kernel, by decide +kernel⟩
theorem ok_law_read_paper (T : Tx w.params K mg) : FnG P w K mg base 3 T.a_law_read_paper T.fd_law_read_paper ["_law_part"] m_law_read_paper := by
  refine fnG_of (N := N_law_read_paper) (k := 2) T.F_law_read_paper sc_law_read_paper rfl fun cdv A fs s H E hr hgd => ?_
  have hu := un100 hr
  have sc := sc_law_read_paper
  exact (ss_cons (s_set (i := 1) sc.nd rfl (by first | exact Or.inl rfl | exact Or.inr rfl) (z_split (z_var 0 (pv 0)) (a_cons z_str a_nil)))
  (ss_cons (s_if (tt_cmp (c_lt hu) (z_blt T.n_len call_len dLen_ok PySem.boot_len (a_cons (z_var 1 (pv 1)) a_nil)) z_int) (ss_one (s_ret z_non)) ss_nil)
  (ss_cons (s_set (i := 2) sc.nd rfl (by first | exact Or.inl rfl | exact Or.inr rfl) (z_lstN a_nil))
  (ss_cons (s_for (g := (.nm 3)) (passes_of rfl) rfl (i_seq (z_add (z_sl (z_var 1 (pv 1)) o_none (o_some z_int)) (z_sl (z_var 1 (pv 1)) (o_some z_int) o_none))) (pg_name (i := 3) sc.nd rfl (by first | exact Or.inl rfl | exact Or.inr rfl)) (ss_cons (s_if (PW.pt (w_or (tt_cmp (c_ninA (by exact hu)) (z_blt T.n_len call_len dLen_ok PySem.boot_len (a_cons (z_var 3 (pv 3)) a_nil)) (z_tup (a_cons z_int (a_cons z_int a_nil)))) (w_or1 (tt_cmp (c_ne hu) (z_comp (own := [("_law_sign", 5)]) (g := (.nm 5)) rfl sc.nd (i_seq (z_var 3 (pv 3))) (blkOk_by (sc := defScope (top 51)) (N := N_law_read_paper) (by first | decide +kernel | rfl)) (fun _ _ _ _ _ => (pg_name (i := 5) sc.nd rfl (by first | exact Or.inl rfl | exact Or.inr rfl))) (fun _ _ _ _ _ => (ts_one (tt_cmp (c_ninA (by exact hu)) (z_var 5 (pv 5)) z_str))) (fun _ _ _ _ _ => (z_var 5 (pv 5))) (by decide)) (z_lst a_nil))))) (ss_one (s_ret z_non)) ss_nil)
  (ss_cons (s_if (PW.pt (w_and (tt_cmp (c_eq hu) (z_blt T.n_len call_len dLen_ok PySem.boot_len (a_cons (z_var 3 (pv 3)) a_nil)) z_int) (w_and1 (tt_cmp (c_eq hu) (z_ixA hu (z_var 3 (pv 3)) z_int) z_str)))) (ss_one (s_ret z_non)) ss_nil)
  (ss_one (s_expr (z_app (z_var 2 (pv 2)) (a_cons (z_typ T.n_int call_int_str dIntT_ok PyProof.Rows.boot_int (a_cons (z_var 3 (pv 3)) a_nil)) a_nil)))))))
  (ss_cons (s_set (i := 4) sc.nd rfl (by first | exact Or.inl rfl | exact Or.inr rfl) (z_add (z_tup (a_cons (z_ixA hu (z_var 2 (pv 2)) z_int) (a_cons (z_ixA hu (z_var 1 (pv 1)) z_int) a_nil))) (z_typ T.n_tuple call_tuple_of dTuple_ok PyProof.Rows.boot_tuple (a_cons (z_sl (z_var 2 (pv 2)) (o_some z_int) o_none) a_nil))))
  (ss_one (s_ret (z_if (t_tru (z_call (ok_law_is_paper T) (hr.mono (by decide)) hgd T.g_law_is_paper T.F_law_is_paper.kp T.b_law_is_paper (passAt (takes_of rfl rfl rfl rfl)) (a_cons (z_var 4 (pv 4)) a_nil))) (z_var 4 (pv 4)) z_non))))))))
abbrev N_law_read_roll : List Str := ["_law_text_here", "_law_papers", "_law_part"]
theorem sc_law_read_roll : FnScope N_law_read_roll ["_law_text_here"] (defScope (top 52)) := ⟨rfl, rfl, rfl, by decide +kernel, rfl, by decide +kernel, by decide +kernel⟩
theorem ok_law_read_roll (T : Tx w.params K mg) : FnG P w K mg base 4 T.a_law_read_roll T.fd_law_read_roll ["_law_text_here"] m_law_read_roll := by
  refine fnG_of (N := N_law_read_roll) (k := 3) T.F_law_read_roll sc_law_read_roll rfl fun cdv A fs s H E hr hgd => ?_
  have hu := un100 hr
  have sc := sc_law_read_roll
  exact (ss_cons (s_if (tt_cmp (c_eq hu) (z_var 0 (pv 0)) z_str) (ss_one (s_ret (z_tup (a_cons z_str (a_cons (z_tup a_nil) a_nil))))) ss_nil)
  (ss_cons (s_setComp (i := 1) (own := [("_law_part", 2)]) (g := (.nm 2)) rfl sc.nd rfl rfl (sw_true rfl rfl rfl (by decide +kernel)) (i_seq (z_split (z_var 0 (pv 0)) (a_cons z_str a_nil))) (blkOk_by (sc := defScope (top 52)) (N := N_law_read_roll) (by first | decide +kernel | rfl)) (fun _ _ _ _ _ => (pg_name (i := 2) sc.nd rfl (by first | exact Or.inl rfl | exact Or.inr rfl))) (fun _ _ _ _ _ => ts_nil) (fun _ _ _ _ _ => (z_call (ok_law_read_paper T) (hr.mono (by decide)) hgd T.g_law_read_paper T.F_law_read_paper.kp T.b_law_read_paper no_out (a_cons (z_var 2 (pv 2)) a_nil))) (by decide))
  (ss_cons (s_if (tt_cmp (c_inA (by exact hu)) z_non (z_var 1 (pv 1))) (ss_one (s_ret (z_tup (a_cons z_str (a_cons (z_m1 PySem.F.plainAttrs_list PySem.F.slot_list_index PySem.F.type_list_index (mt_idxP hu) dIndexP_ok (z_var 1 (pv 1)) (a_cons z_non a_nil)) a_nil))))) ss_nil)
  (ss_cons (s_if (PW.pt (w_or (tt_cmp (c_gt hu) (z_blt T.n_len call_len dLen_ok PySem.boot_len (a_cons (z_var 1 (pv 1)) a_nil)) z_int) (w_or1 (tt_cmp (c_ne hu) (z_var 1 (pv 1)) (z_sortRows hu T.n_sorted T.n_set (z_var 1 (pv 1))))))) (ss_one (s_ret (z_tup (a_cons z_str (a_cons (z_neg z_int) a_nil))))) ss_nil)
  (ss_one (s_ret (z_tup (a_cons z_str (a_cons (z_typ T.n_tuple call_tuple_of dTuple_ok PyProof.Rows.boot_tuple (a_cons (z_var 1 (pv 1)) a_nil)) a_nil)))))))))
abbrev N_law_bent : List Str := ["_law_pen_here", "_law_text_here", "_law_signs", "_law_near", "_law_rows", "_law_at", "_law_sign"]
theorem sc_law_bent : FnScope N_law_bent ["_law_pen_here", "_law_text_here"] (defScope (top 53)) := ⟨rfl, rfl, rfl, by decide +kernel, rfl, by decide +kernel, by decide +kernel⟩
theorem ok_law_bent (T : Tx w.params K mg) : FnG P w K mg base 2 T.a_law_bent T.fd_law_bent ["_law_pen_here", "_law_text_here"] m_law_bent := by
  refine fnG_of (N := N_law_bent) (k := 1) T.F_law_bent sc_law_bent rfl fun cdv A fs s H E hr hgd => ?_
  have hu := un100 hr
  have sc := sc_law_bent
  exact (ss_cons (s_set (i := 2) sc.nd rfl (by first | exact Or.inl rfl | exact Or.inr rfl) z_str)
  (ss_cons (s_parA (i := 5) (j := 6) rfl sc.nd rfl rfl (by decide) rfl rfl (a_cons (z_call (ok_law_draw T) (hr.mono (by decide)) hgd T.g_law_draw T.F_law_draw.kp T.b_law_draw (passAt (takes_of rfl rfl rfl rfl)) (a_cons (z_var 0 (pv 0)) (a_cons (z_add (z_blt T.n_len call_len dLen_ok PySem.boot_len (a_cons (z_var 1 (pv 1)) a_nil)) z_int) a_nil))) (a_cons (z_ixA hu (z_var 2 (pv 2)) (z_call (ok_law_draw T) (hr.mono (by decide)) hgd T.g_law_draw T.F_law_draw.kp T.b_law_draw (passAt (takes_of rfl rfl rfl rfl)) (a_cons (z_var 0 (pv 0)) (a_cons (z_blt T.n_len call_len dLen_ok PySem.boot_len (a_cons (z_var 2 (pv 2)) a_nil)) a_nil)))) a_nil)) (by rfl))
  (ss_cons (s_set (i := 3) sc.nd rfl (by first | exact Or.inl rfl | exact Or.inr rfl) (z_ixA hu (z_lst (a_cons z_str (a_cons z_str (a_cons z_str (a_cons z_str (a_cons z_str (a_cons z_str (a_cons z_str (a_cons z_str a_nil))))))))) (z_call (ok_law_draw T) (hr.mono (by decide)) hgd T.g_law_draw T.F_law_draw.kp T.b_law_draw (passAt (takes_of rfl rfl rfl rfl)) (a_cons (z_var 0 (pv 0)) (a_cons z_int a_nil)))))
  (ss_cons (s_set (i := 4) sc.nd rfl (by first | exact Or.inl rfl | exact Or.inr rfl) (z_lst (a_cons (z_add (z_add (z_sl (z_var 1 (pv 1)) o_none (o_some (z_var 5 (pv 5)))) (z_var 6 (pv 6))) (z_sl (z_var 1 (pv 1)) (o_some (z_var 5 (pv 5))) o_none)) (a_cons (z_add (z_add (z_sl (z_var 1 (pv 1)) o_none (o_some (z_var 5 (pv 5)))) (z_var 6 (pv 6))) (z_sl (z_var 1 (pv 1)) (o_some (z_add (z_var 5 (pv 5)) z_int)) o_none)) (a_cons (z_add (z_sl (z_var 1 (pv 1)) o_none (o_some (z_var 5 (pv 5)))) (z_sl (z_var 1 (pv 1)) (o_some (z_add (z_var 5 (pv 5)) z_int)) o_none)) (a_cons (z_sl (z_var 1 (pv 1)) o_none (o_some (z_var 5 (pv 5)))) a_nil))))))
  (ss_one (s_ret (z_ixA hu (z_add (z_var 4 (pv 4)) (z_lst (a_cons (z_add (z_add (z_sl (z_var 1 (pv 1)) o_none (o_some (z_var 5 (pv 5)))) (z_var 3 (pv 3))) (z_sl (z_var 1 (pv 1)) (o_some (z_var 5 (pv 5))) o_none)) (a_cons (z_add (z_add (z_sl (z_var 1 (pv 1)) o_none (o_some (z_var 5 (pv 5)))) (z_var 3 (pv 3))) (z_sl (z_var 1 (pv 1)) (o_some (z_add (z_var 5 (pv 5)) z_int)) o_none)) (a_cons (z_add (z_var 1 (pv 1)) (z_var 6 (pv 6))) a_nil))))) (z_call (ok_law_draw T) (hr.mono (by decide)) hgd T.g_law_draw T.F_law_draw.kp T.b_law_draw (passAt (takes_of rfl rfl rfl rfl)) (a_cons (z_var 0 (pv 0)) (a_cons z_int a_nil))))))))))
abbrev N_law_right : List Str := ["_law_text_here", "_law_paper", "_law_due", "_law_turn"]
theorem sc_law_right : FnScope N_law_right ["_law_text_here"] (defScope (top 54)) := ⟨rfl, rfl, rfl, by decide +kernel, rfl, by decide +kernel, by decide +kernel⟩
theorem ok_law_right (T : Tx w.params K mg) (TB : ∀ q ∈ T.cs, LamX.TabB base mg q.1 q.2) : FnG P w K mg base 8 T.a_law_right T.fd_law_right ["_law_text_here"] (m_law_right T.Ts tblV) := by
  refine fnG_ofC (N := N_law_right) (k := 7) T.F_law_right T.hcc0 sc_law_right rfl fun A fs s H E hr hgd => ?_
  have hu := un100 hr
  have sc := sc_law_right
  exact (ss_cons (s_set (i := 1) sc.nd rfl (by first | exact Or.inl rfl | exact Or.inr rfl) (z_call (ok_law_read_paper T) (hr.mono (by decide)) hgd T.g_law_read_paper T.F_law_read_paper.kp T.b_law_read_paper (passAt (takes_of rfl rfl rfl rfl)) (a_cons (z_var 0 (pv 0)) a_nil)))
  (ss_cons (s_set (i := 2) sc.nd rfl (by first | exact Or.inl rfl | exact Or.inr rfl) (z_if (tt_cmp c_is (z_var 1 (pv 1)) z_non) (z_tup (a_cons z_str (a_cons z_int a_nil))) (z_tup (a_cons z_str (a_cons (z_var 1 (pv 1)) a_nil)))))
  (ss_cons (s_for (g := (.nm 3)) (passes_of rfl) rfl (i_range1 T.n_range (a_cons z_int a_nil)) (pg_name (i := 3) sc.nd rfl (by first | exact Or.inl rfl | exact Or.inr rfl)) (ss_cons (s_if (PW.pt (w_and (tt_cmp (c_lt hu) (z_blt T.n_len call_len dLen_ok PySem.boot_len (a_cons (z_var 0 (pv 0)) a_nil)) z_int) (w_and1 (tt_cmp (c_ne hu) (z_blt T.n_repr (call_reprP hu hgd) dRepr_ok PyProof.Rows.boot_repr (a_cons (z_wordX (k := 5) T.F_law_word T.g_law_word T.b_law_word sc_law_word rfl (Or.inl rfl) rfl rfl (by decide) (T.gc "BenchError" (by decide +kernel)) (fun cdv s2 H2 hr2 => suite_ok (X := bodyCx P w K mg base N_law_right "_law_right" (top 54) T.a_law_right (.ref T.cc0) A fs s H E) (n := 5 + 1) T cdv s2 H2 hr2) (fun cdv s2 H2 hr2 => suiteX_ok (X := bodyCx P w K mg base N_law_right "_law_right" (top 54) T.a_law_right (.ref T.cc0) A fs s H E) (n := 5 + 1) T cdv s2 H2 hr2) (TB (T.cc0, T.PP0) (by simp [Tx.cs])) rfl rfl (hr.mono (by decide)) (LamX.lamS_by rfl) (fun A outer s H E f c' hr => (have hu := un100 hr; (z_callK (okK_paper_read T) (hr.mono (by decide)) T.g_paper_read T.F_paper_read.kp T.b_paper_read (passAt (takes_of rfl rfl rfl rfl)) (a_cons (z_var 0 (pv 0)) a_nil))))) a_nil)) (z_blt T.n_repr (call_reprP hu hgd) dRepr_ok PyProof.Rows.boot_repr (a_cons (z_var 2 (pv 2)) a_nil)))))) (ss_one (s_ret z_bl)) ss_nil)
  (ss_one (s_if (tt_cmp (c_ne hu) (z_blt T.n_repr (call_reprP hu hgd) dRepr_ok PyProof.Rows.boot_repr (a_cons (z_wordX (k := 5) T.F_law_word T.g_law_word T.b_law_word sc_law_word rfl (Or.inl rfl) rfl rfl (by decide) (T.gc "BenchError" (by decide +kernel)) (fun cdv s2 H2 hr2 => suite_ok (X := bodyCx P w K mg base N_law_right "_law_right" (top 54) T.a_law_right (.ref T.cc0) A fs s H E) (n := 5 + 1) T cdv s2 H2 hr2) (fun cdv s2 H2 hr2 => suiteX_ok (X := bodyCx P w K mg base N_law_right "_law_right" (top 54) T.a_law_right (.ref T.cc0) A fs s H E) (n := 5 + 1) T cdv s2 H2 hr2) (TB (T.cc0, T.PP0) (by simp [Tx.cs])) rfl rfl (hr.mono (by decide)) (LamX.lamS_by rfl) (fun A outer s H E f c' hr => (have hu := un100 hr; (z_callK (okK_roll_read T) (hr.mono (by decide)) T.g_roll_read T.F_roll_read.kp T.b_roll_read (passAt (takes_of rfl rfl rfl rfl)) (a_cons (z_var 0 (pv 0)) a_nil))))) a_nil)) (z_blt T.n_repr (call_reprP hu hgd) dRepr_ok PyProof.Rows.boot_repr (a_cons (z_call (ok_law_read_roll T) (hr.mono (by decide)) hgd T.g_law_read_roll T.F_law_read_roll.kp T.b_law_read_roll (passAt (takes_of rfl rfl rfl rfl)) (a_cons (z_var 0 (pv 0)) a_nil)) a_nil))) (ss_one (s_ret z_bl)) ss_nil))))
  (ss_one (s_ret z_bl)))))
abbrev N_law : List Str := ["_law_script", "_law_text_here", "_law_cell_here", "_law_pen_here", "_law_papers", "_law_some", "_law_parts", "_law_texts", "_law_odd_here", "_law_words", "_law_at", "_law_to", "_law_paper", "_law_row", "_law_turn"]
theorem sc_law : FnScope N_law ["_law_script"] (defScope (top 55)) := ⟨rfl, rfl, rfl, by decide +kernel, rfl, by decide +kernel, by decide +kernel⟩
theorem ok_law (T : Tx w.params K mg) (TB : ∀ q ∈ T.cs, LamX.TabB base mg q.1 q.2) : FnG P w K mg base 9 T.a_law T.fd_law ["_law_script"] (m_law T.Ts tblV) := by
  refine fnG_ofC (N := N_law) (k := 8) T.F_law T.hcc1 sc_law rfl fun A fs s H E hr hgd => ?_
  have hu := un100 hr
  have sc := sc_law
  exact (ss_cons (s_for (g := (.nm 1)) (passes_of rfl) rfl (i_seq (z_lst (a_cons z_str (a_cons z_str (a_cons z_str (a_cons z_str (a_cons z_str (a_cons z_str (a_cons z_str (a_cons z_str a_nil)))))))))) (pg_name (i := 1) sc.nd rfl (by first | exact Or.inl rfl | exact Or.inr rfl)) (ss_one (s_if (t_not (t_tru (z_call (ok_law_right T TB) (hr.mono (by decide)) hgd T.g_law_right T.F_law_right.kp T.b_law_right (passAt (takes_of rfl rfl rfl rfl)) (a_cons (z_var 1 (pv 1)) a_nil)))) (ss_one (s_ret z_bl)) ss_nil)))
  (ss_cons (s_for (g := (.nm 2)) (passes_of rfl) rfl (i_seq (z_add (z_lst (a_cons (z_call (ok_law_cell T) (hr.mono (by decide)) hgd T.g_law_cell T.F_law_cell.kp T.b_law_cell (passAt (takes_of rfl rfl rfl rfl)) (a_cons (z_var 0 (pv 0)) (a_cons z_int a_nil))) a_nil)) (z_sl (z_var 0 (pv 0)) (o_some z_int) (o_some z_int)))) (pg_name (i := 2) sc.nd rfl (by first | exact Or.inl rfl | exact Or.inr rfl)) (ss_cons (s_set (i := 3) sc.nd rfl (by first | exact Or.inl rfl | exact Or.inr rfl) (z_call (ok_law_pen T) (hr.mono (by decide)) hgd T.g_law_pen T.F_law_pen.kp T.b_law_pen (passAt (takes_of rfl rfl rfl rfl)) (a_cons (z_var 2 (pv 2)) a_nil)))
  (ss_cons (s_set (i := 4) sc.nd rfl (by first | exact Or.inl rfl | exact Or.inr rfl) (z_sortRows hu T.n_sorted T.n_set (z_comp (own := [("_law_turn", 14)]) (g := (.nm 14)) rfl sc.nd (i_range1 T.n_range (a_cons (z_add z_int (z_call (ok_law_draw T) (hr.mono (by decide)) hgd T.g_law_draw T.F_law_draw.kp T.b_law_draw (passAt (takes_of rfl rfl rfl rfl)) (a_cons (z_var 3 (pv 3)) (a_cons z_int a_nil)))) a_nil)) (blkOk_by (sc := defScope (top 55)) (N := N_law) (by first | decide +kernel | rfl)) (fun _ _ _ _ _ => (pg_name (i := 14) sc.nd rfl (by first | exact Or.inl rfl | exact Or.inr rfl))) (fun _ _ _ _ _ => ts_nil) (fun _ _ _ _ _ => (z_call (ok_law_any_paper T) (hr.mono (by decide)) hgd T.g_law_any_paper T.F_law_any_paper.kp T.b_law_any_paper no_out (a_cons (z_var 3 (pv 3)) a_nil))) (by decide))))
  (ss_cons (s_set (i := 5) sc.nd rfl (by first | exact Or.inl rfl | exact Or.inr rfl) (z_comp (own := [("_law_paper", 12)]) (g := (.nm 12)) rfl sc.nd (i_seq (z_var 4 (pv 4))) (blkOk_by (sc := defScope (top 55)) (N := N_law) (by first | decide +kernel | rfl)) (fun _ _ _ _ _ => (pg_name (i := 12) sc.nd rfl (by first | exact Or.inl rfl | exact Or.inr rfl))) (fun _ _ _ _ _ => ts_nil) (fun _ _ _ _ _ => (z_call (ok_law_text T) (hr.mono (by decide)) hgd T.g_law_text T.F_law_text.kp T.b_law_text no_out (a_cons (z_var 12 (pv 12)) a_nil))) (by decide)))
  (ss_cons (s_tup (is := [10, 11]) (z_tup (a_cons (z_call (ok_law_draw T) (hr.mono (by decide)) hgd T.g_law_draw T.F_law_draw.kp T.b_law_draw (passAt (takes_of rfl rfl rfl rfl)) (a_cons (z_var 3 (pv 3)) (a_cons (z_blt T.n_len call_len dLen_ok PySem.boot_len (a_cons (z_var 5 (pv 5)) a_nil)) a_nil))) (a_cons (z_call (ok_law_draw T) (hr.mono (by decide)) hgd T.g_law_draw T.F_law_draw.kp T.b_law_draw (passAt (takes_of rfl rfl rfl rfl)) (a_cons (z_var 3 (pv 3)) (a_cons (z_blt T.n_len call_len dLen_ok PySem.boot_len (a_cons (z_var 5 (pv 5)) a_nil)) a_nil))) a_nil))) (pg_tup rfl (pgs_cons (pg_name (i := 10) sc.nd rfl (by first | exact Or.inl rfl | exact Or.inr rfl)) (pgs_cons (pg_name (i := 11) sc.nd rfl (by first | exact Or.inl rfl | exact Or.inr rfl)) pgs_nil))))
  (ss_cons (s_set (i := 6) sc.nd rfl (by first | exact Or.inl rfl | exact Or.inr rfl) (z_lstN (a_cons (z_sl (z_var 5 (pv 5)) o_none (o_some z_int)) (a_cons (z_sl (z_var 5 (pv 5)) o_none (o_some z_int)) (a_cons (z_add (z_sl (z_var 5 (pv 5)) (o_some (z_var 10 (pv 10))) o_none) (z_sl (z_var 5 (pv 5)) o_none (o_some (z_var 10 (pv 10))))) (a_cons (z_add (z_add (z_sl (z_var 5 (pv 5)) o_none (o_some (z_var 10 (pv 10)))) (z_sl (z_var 5 (pv 5)) (o_some (z_var 10 (pv 10))) (o_some (z_add (z_var 10 (pv 10)) z_int)))) (z_sl (z_var 5 (pv 5)) (o_some (z_var 10 (pv 10))) (o_some (z_add (z_var 10 (pv 10)) z_int)))) a_nil))))))
  (ss_cons (s_expr (z_app (z_var 6 (pv 6)) (a_cons (z_add (z_add (z_sl (z_var 5 (pv 5)) o_none (o_some (z_var 10 (pv 10)))) (z_lst (a_cons (z_call (ok_law_bent T) (hr.mono (by decide)) hgd T.g_law_bent T.F_law_bent.kp T.b_law_bent (passAt (takes_of rfl rfl rfl rfl)) (a_cons (z_var 3 (pv 3)) (a_cons (z_ixA hu (z_var 5 (pv 5)) (z_var 10 (pv 10))) a_nil))) a_nil))) (z_sl (z_var 5 (pv 5)) (o_some (z_add (z_var 10 (pv 10)) z_int)) (o_some (z_add (z_var 10 (pv 10)) z_int)))) a_nil)))
  (ss_cons (s_expr (z_app (z_var 6 (pv 6)) (a_cons (z_add (z_sl (z_var 5 (pv 5)) (o_some (z_var 11 (pv 11))) (o_some (z_add (z_var 11 (pv 11)) z_int))) (z_sl (z_var 5 (pv 5)) (o_some (z_var 10 (pv 10))) (o_some (z_add (z_var 10 (pv 10)) z_int)))) a_nil)))
  (ss_cons (s_set (i := 7) sc.nd rfl (by first | exact Or.inl rfl | exact Or.inr rfl) (z_add (z_comp (own := [("_law_row", 13)]) (g := (.nm 13)) rfl sc.nd (i_seq (z_var 6 (pv 6))) (blkOk_by (sc := defScope (top 55)) (N := N_law) (by first | decide +kernel | rfl)) (fun _ _ _ _ _ => (pg_name (i := 13) sc.nd rfl (by first | exact Or.inl rfl | exact Or.inr rfl))) (fun _ _ _ _ _ => ts_nil) (fun _ _ _ _ _ => (z_join z_str (a_cons (z_var 13 (pv 13)) a_nil))) (by decide)) (z_comp (own := [("_law_turn", 14)]) (g := (.nm 14)) rfl sc.nd (i_range1 T.n_range (a_cons z_int a_nil)) (blkOk_by (sc := defScope (top 55)) (N := N_law) (by first | decide +kernel | rfl)) (fun _ _ _ _ _ => (pg_name (i := 14) sc.nd rfl (by first | exact Or.inl rfl | exact Or.inr rfl))) (fun _ _ _ _ _ => ts_nil) (fun _ _ _ _ _ => (z_call (ok_law_bent T) (hr.mono (by decide)) hgd T.g_law_bent T.F_law_bent.kp T.b_law_bent no_out (a_cons (z_var 3 (pv 3)) (a_cons (z_ixA hu (z_var 5 (pv 5)) (z_var 10 (pv 10))) a_nil)))) (by decide))))
  (ss_cons (s_for (g := (.nm 1)) (passes_of rfl) rfl (i_seq (z_add (z_var 7 (pv 7)) (z_comp (own := [("_law_turn", 14)]) (g := (.nm 14)) rfl sc.nd (i_range1 T.n_range (a_cons z_int a_nil)) (blkOk_by (sc := defScope (top 55)) (N := N_law) (by first | decide +kernel | rfl)) (fun _ _ _ _ _ => (pg_name (i := 14) sc.nd rfl (by first | exact Or.inl rfl | exact Or.inr rfl))) (fun _ _ _ _ _ => ts_nil) (fun _ _ _ _ _ => (z_call (ok_law_bent T) (hr.mono (by decide)) hgd T.g_law_bent T.F_law_bent.kp T.b_law_bent no_out (a_cons (z_var 3 (pv 3)) (a_cons (z_join z_str (a_cons (z_sl (z_var 5 (pv 5)) o_none (o_some z_int)) a_nil)) a_nil)))) (by decide)))) (pg_name (i := 1) sc.nd rfl (by first | exact Or.inl rfl | exact Or.inr rfl)) (ss_one (s_if (t_not (t_tru (z_call (ok_law_right T TB) (hr.mono (by decide)) hgd T.g_law_right T.F_law_right.kp T.b_law_right (passAt (takes_of rfl rfl rfl rfl)) (a_cons (z_var 1 (pv 1)) a_nil)))) (ss_one (s_ret z_bl)) ss_nil)))
  (ss_cons (s_set (i := 8) sc.nd rfl (by first | exact Or.inl rfl | exact Or.inr rfl) (z_call (ok_law_odd T) (hr.mono (by decide)) hgd T.g_law_odd T.F_law_odd.kp T.b_law_odd (passAt (takes_of rfl rfl rfl rfl)) (a_cons (z_var 3 (pv 3)) a_nil)))
  (ss_cons (s_set (i := 9) sc.nd rfl (by first | exact Or.inl rfl | exact Or.inr rfl) (z_lstN (a_cons (z_wordX (k := 5) T.F_law_word T.g_law_word T.b_law_word sc_law_word rfl (Or.inl rfl) rfl rfl (by decide) (T.gc "BenchError" (by decide +kernel)) (fun cdv s2 H2 hr2 => suite_ok (X := bodyCx P w K mg base N_law "law" (top 55) T.a_law (.ref T.cc1) A fs s H E) (n := 5 + 1) T cdv s2 H2 hr2) (fun cdv s2 H2 hr2 => suiteX_ok (X := bodyCx P w K mg base N_law "law" (top 55) T.a_law (.ref T.cc1) A fs s H E) (n := 5 + 1) T cdv s2 H2 hr2) (TB (T.cc1, T.PP1) (by simp [Tx.cs])) rfl rfl (hr.mono (by decide)) (LamX.lamS_by rfl) (fun A outer s H E f c' hr => (have hu := un100 hr; (z_callK (okK_paper_read T) (hr.mono (by decide)) T.g_paper_read T.F_paper_read.kp T.b_paper_read (passAt (takes_of rfl rfl rfl rfl)) (a_cons (z_var 8 (pv 8)) a_nil))))) a_nil)))
  (ss_cons (s_expr (z_app (z_var 9 (pv 9)) (a_cons (z_wordX (k := 5) T.F_law_word T.g_law_word T.b_law_word sc_law_word rfl (Or.inl rfl) rfl rfl (by decide) (T.gc "BenchError" (by decide +kernel)) (fun cdv s2 H2 hr2 => suite_ok (X := bodyCx P w K mg base N_law "law" (top 55) T.a_law (.ref T.cc1) A fs s H E) (n := 5 + 1) T cdv s2 H2 hr2) (fun cdv s2 H2 hr2 => suiteX_ok (X := bodyCx P w K mg base N_law "law" (top 55) T.a_law (.ref T.cc1) A fs s H E) (n := 5 + 1) T cdv s2 H2 hr2) (TB (T.cc1, T.PP1) (by simp [Tx.cs])) rfl rfl (hr.mono (by decide)) (LamX.lamS_by rfl) (fun A outer s H E f c' hr => (have hu := un100 hr; (z_callK (okK_roll_read T) (hr.mono (by decide)) T.g_roll_read T.F_roll_read.kp T.b_roll_read (passAt (takes_of rfl rfl rfl rfl)) (a_cons (z_var 8 (pv 8)) a_nil))))) a_nil)))
  (ss_one (s_if (PW.pt (w_and (t_not (t_tru (z_blt T.n_isinstance call_isaP dIsa_ok PyProof.Rows.boot_isinstance (a_cons (z_var 8 (pv 8)) (a_cons (z_ty T.n_str PyProof.Rows.boot_str) a_nil))))) (w_and1 (tt_cmp (c_ne hu) (z_var 9 (pv 9)) (z_mulX (z_lst (a_cons (z_tup (a_cons z_str (a_cons (z_neg z_int) a_nil))) a_nil)) z_int))))) (ss_one (s_ret z_bl)) ss_nil)))))))))))))))
  (ss_one (s_ret z_bl))))
end
end Lk92

/-! k92A: texts read. -/
namespace Sp
open PySem L2 Z Lk92
theorem x_inSign (c : Nat) (z : Str) (S : Sto) : dInA (.str ⟨#[c]⟩) (.str z) S = .ok (.bl (decide (c ∈ z.cps.toList))) S := rfl
theorem signs_in (w : Str) (S : Sto) (a b : Option Z.D) : lcL [] (Tgt.nm 1) [1] tYesM (mBin dInA (mVar 1) (mC (.str "0123456789"))) (signs w) [a, b] S = .ok (.map (fun c : Nat => Z.D.bl (decide (c ∈ figs.cps.toList))) w.cps.toList) S := by
  unfold signs
  have := lc_src (g := Tgt.nm 1) (vs := [1]) (tm := tYesM) (e := mBin dInA (mVar 1) (mC (.str "0123456789"))) (τ := [a, b]) (ks := []) (S := S) (f := fun c : Nat => Z.D.str ⟨#[c]⟩) (keep_nil S) (fun _ => true) (fun c => .bl (decide (c ∈ figs.cps.toList))) w.cps.toList fun c hc => ⟨_, rfl, rfl, fun _ => by
    simp [wipeT, -x_inA, x_inSign]; rfl⟩
  have e : w.cps.toList.filter (fun _ => true) = w.cps.toList := by simp
  rw [e] at this
  exact this
theorem eqS (x y : Str) (S : Sto) : dEq (.str x) (.str y) S = .ok (.bl (x == y)) S := by
  simp [dDat, toPy, toPyD, plainB, PyData.plain, PyData.depth, PyData.eqv]
theorem number_ok (w : Str) (h : w.length ≤ 16777216) (S : Sto) : m_number_in [.str w] S = .ok (numD w) S := by
  refine wp_eq ?_
  have hlen : ∀ S, dLen [.str w] S = .ok (.int w.length) S := fun S => by
    show guardR (w.length ≤ sizeLine) _ = _
    rw [guardR, if_pos (by rw [hz]; exact h)]
  have hit : ∀ S, itemsOf (.str w) S = some ⟨signs w, []⟩ := fun _ => rfl
  have hwl : w.cps.toList.length = w.length := by simp [Str.length]
  have hsl : (signs w).length ≤ 16777216 := by unfold signs; rw [List.length_map, hwl]; exact h
  have hsg := fun S => signs_in w S (some (.str w)) none
  have hall := fun S => all_src (fun c : Nat => decide (c ∈ figs.cps.toList)) w.cps.toList S
  have hnB : numB w = (decide (1 ≤ w.length) && decide (w.length ≤ 2) && (w.cps.toList.all fun c => decide (c ∈ figs.cps.toList)) && !(decide (w.length = 2) && decide (w.cps.toList.head? = some 48))) := rfl
  have hint : numB w = true → ∀ S, dIntT [.str w] S = .ok (.int (numV w)) S := fun hb S => by
    rw [x_intT (numB_val hb), guardR, if_pos (by have := numB_len hb; omega)]
  have hnD : numD w = if numB w then .int (numV w) else .non := rfl
  have hl2 : ((w.cps.toList.map fun c : Nat => Z.D.bl (decide (c ∈ figs.cps.toList)))).length ≤ 16777216 := by rw [List.length_map, hwl]; exact h
  unfold m_number_in
  by_cases q1 : 1 ≤ w.length
  · have z1 : (1 : Int) ≤ (w.length : Int) := by omega
    by_cases q2 : w.length ≤ 2
    · have z2 : (w.length : Int) ≤ 2 := by omega
      cases q3 : (w.cps.toList.all fun c => decide (c ∈ figs.cps.toList)) with
      | false =>
        rw [q3] at hall
        have e : numD w = .non := by rw [hnD, hnB, q3]; simp
        simp only [← e]
        generalize (w.cps.toList.map fun c : Nat => Z.D.bl (decide (c ∈ figs.cps.toList))) = bs at *
        simp [hz, hlen, hit, hsl, hsg, hall, z1, z2, hl2]
      | true =>
        rw [q3] at hall
        generalize (w.cps.toList.map fun c : Nat => Z.D.bl (decide (c ∈ figs.cps.toList))) = bs at *
        by_cases q4 : w.length = 2
        · obtain ⟨c, hc⟩ : ∃ c, w.cps.toList.head? = some c := by
            cases e : w.cps.toList with
            | nil =>
              have : w.length = w.cps.toList.length := by simp [Str.length]
              rw [e] at this; simp at this; omega
            | cons c r => exact ⟨c, rfl⟩
          have z3 : (w.length : Int) = 2 := by omega
          have hix : ∀ S, dIxA (.str w) (.int 0) S = .ok (.str ⟨#[c]⟩) S := fun S => by
            have e : atI w.cps.toList 0 = some c := by
              cases hw : w.cps.toList with
              | nil => rw [hw] at hc; cases hc
              | cons x r =>
                rw [hw] at hc
                cases hc
                simp [atI, ixN]
            show guardR (w.length ≤ sizeLine) (ofO ((atI w.cps.toList 0).map fun c => Z.D.str ⟨#[c]⟩) S) = _
            rw [e, guardR, if_pos (by rw [hz]; exact h)]; rfl
          have h48 : ("0" : Str) = ⟨#[48]⟩ := by decide +kernel
          by_cases q5 : c = 48
          · subst q5
            have e : numD w = .non := by rw [hnD, hnB, hc]; simp [q4]
            have eq0 : ∀ S, dEq (.str ⟨#[48]⟩) (.str "0") S = .ok (.bl true) S := fun S => by rw [eqS, h48]; simp
            simp [hz, hlen, hit, hsl, hsg, hall, z1, z2, hl2, z3, hix, eq0, e]
          · have hb : numB w = true := by rw [hnB, q3, hc]; simp [q1, q2, q4, q5]
            have eq0 : ∀ S, dEq (.str ⟨#[c]⟩) (.str "0") S = .ok (.bl false) S := fun S => by
              rw [eqS, h48]
              have : ((⟨#[c]⟩ : Str) == ⟨#[48]⟩) = false := by simp [q5]
              rw [this]
            simp [hz, hlen, hit, hsl, hsg, hall, z1, z2, hl2, z3, hix, eq0, hint hb, hnD, hb]
        · have z3 : ¬ (w.length : Int) = 2 := by omega
          have hb : numB w = true := by rw [hnB, q3]; simp [q1, q2, q4]
          simp [hz, hlen, hit, hsl, hsg, hall, z1, z2, hl2, z3, hint hb, hnD, hb]
    · have z2 : ¬ (w.length : Int) ≤ 2 := by omega
      have e : numD w = .non := by rw [hnD, hnB]; simp [q2]
      simp [hz, hlen, z1, z2, e]
  · have z1 : ¬ (1 : Int) ≤ (w.length : Int) := by omega
    have e : numD w = .non := by rw [hnD, hnB]; simp [q1]
    simp [hz, hlen, z1, e]

/-! ### None in a list -/
theorem non_in {ds : List Z.D} {ps : List PyData} (h : toPyDs ds = some ps) (hp : PyData.plainAll ps = true) (S : Sto) : dInA .non (.lst ds) S = .ok (.bl (ps.any fun y => PyData.eqv y .none)) S := by
  have e : toPy (.lst ds) S = some (.list ps) := toPy_of (by simp [toPyD, h])
  have e2 : inP .non (.lst ds) S = some (inPy .none (.list ps)) := by
    show (match toPy .non S, toPy (.lst ds) S with
      | some p, some q => if inB p q = true then some (inPy p q) else none
      | _, _ => none) = _
    rw [e]
    simp [toPy, toPyD, inB, PyData.plain, PyData.depth, hp]
  rw [x_inA, e2]
  rfl
def pyN (w : Str) : PyData := if numB w then .int (numV w) else .none
theorem toPy_words : ∀ ws : List Str, toPyDs (ws.map numD) = some (ws.map pyN)
  | [] => rfl
  | w :: ws => by
    have e : toPyD (numD w) = some (pyN w) := by unfold numD pyN; split <;> rfl
    simp [toPyDs, e, toPy_words ws]
theorem plain_words : ∀ ws : List Str, PyData.plainAll (ws.map pyN) = true
  | [] => rfl
  | w :: ws => by
    have e : PyData.plain (pyN w) = true := by unfold pyN; split <;> rfl
    simp [PyData.plainAll, e, plain_words ws]
theorem non_words (ws : List Str) (S : Sto) : dInA .non (.lst (ws.map numD)) S = .ok (.bl (!ws.all numB)) S := by
  rw [non_in (toPy_words ws) (plain_words ws)]
  congr 2
  rw [List.any_map, List.not_all_eq_any_not]
  congr 1
  funext w
  simp only [Function.comp, pyN]
  cases numB w <;> rfl
/-! ### a paper read -/
def readW : List Str → Z.D
  | x :: w :: r => if (valG forms w).isSome then (if (x :: r).all numB then (let d := Z.D.tup (.int (numV x) :: .str w :: r.map fun y => .int (numV y)); if isPa d then d else .non) else .non) else .non
  | _ => .non
def readP (t : Str) : Z.D := readW (Txt.split t spc)
theorem lc_words (ws : List Str) (h : ∀ w ∈ ws, w.length ≤ 16777216) (a b c d e : Option Z.D) (S : Sto) : lcL [] (Tgt.nm 4) [4] tYesM (mCall m_number_in (aCons (mVar 4) aNil)) (ws.map Z.D.str) [a, b, c, d, e] S = .ok (ws.map numD) S := by
  have := lc_src (g := Tgt.nm 4) (vs := [4]) (tm := tYesM) (e := mCall m_number_in (aCons (mVar 4) aNil)) (τ := [a, b, c, d, e]) (ks := []) (S := S) (f := Z.D.str) (keep_nil S) (fun _ => true) numD ws fun w hw => ⟨_, rfl, rfl, fun _ => by
    simp [wipeT, number_ok w (h w hw)]⟩
  have e : ws.filter (fun _ => true) = ws := by simp
  rw [e] at this
  exact this
theorem kin_forms (w : Str) : valG Pg.kd_FORMS w = (valG forms w).map formD := by rw [kd_eq, valG_snd]
theorem has_ints : ∀ r : List Str, ∃ ps, toPyDs (r.map fun y => Z.D.int (numV y)) = some ps
  | [] => ⟨_, rfl⟩
  | x :: r => by
    obtain ⟨ps, e⟩ := has_ints r
    exact ⟨.int (numV x) :: ps, by simp [toPyDs, toPyD, e]⟩
theorem paper_in_ok (t : Str) (h : t.length ≤ 1000000) (h1 : (Txt.split t spc).length ≤ 1000000) (h2 : ∀ w ∈ Txt.split t spc, w.length ≤ 1000000) (S : Sto) : m_paper_in [.str t] S = .ok (readP t) S := by
  refine wp_eq ?_
  have hsp : dSplit (.str t) [.str " "] S = .ok (.lst ((Txt.split t spc).map .str)) S := by
    rw [x_split]
    show guardR _ _ = _
    rw [guardR, if_pos ⟨by decide +kernel, by rw [hz]; omega⟩]; rfl
  have hr : readP t = readW (Txt.split t spc) := rfl
  rw [hr]
  generalize Txt.split t spc = ws at *
  have hty : isTy "str" (.str t) S = true := rfl
  have hl1 : ws.length ≤ 16777216 := by omega
  unfold m_paper_in
  match ws, hl1, h1, h2, hsp with
  | [], _, _, _, hsp => simp [hty, hsp, hz, readW]
  | [x], _, _, _, hsp => simp [hty, hsp, hz, readW]
  | x :: w :: r, hl1, h1, h2, hsp =>
    have z1 : ¬ ((r.length : Int) + 1 + 1 < 2) := by omega
    have hcut1 : cutD (Z.D.str x :: .str w :: r.map Z.D.str) none (some 1) = [.str x] := by rw [cut_take (by decide)]; rfl
    have hcut2 : cutD (Z.D.str x :: .str w :: r.map Z.D.str) (some 2) none = r.map Z.D.str := cut_fr2
    have hcut3 : cutD (numD x :: r.map numD) (some 1) none = r.map numD := cut_fr1
    simp only [List.length_cons] at h1 hl1
    have z2 : 1 + r.length ≤ 16777216 := by omega
    have z3 : r.length + 1 ≤ 16777216 := by omega
    have z4 : 2 + r.length ≤ 16777216 := by omega
    have hlc := fun a b c d e S => lc_words (x :: r) (fun y hy => by
      have := h2 y (by rcases List.mem_cons.mp hy with rfl | hy <;> simp [*])
      omega) a b c d e S
    have hne := fun S => non_words (x :: r) S
    simp only [List.map_cons] at hlc hne
    have hty0 : (Z.D.str x :: List.map Z.D.str r).length = r.length + 1 := by simp
    cases e : valG forms w with
    | none =>
      have er : readW (x :: w :: r) = .non := by simp [readW, e]
      simp [hty, hsp, hz, z1, at1, kin_forms, e, er]
    | some ms =>
      cases q : (x :: r).all numB with
      | false =>
        have er : readW (x :: w :: r) = .non := by
          simp only [readW, e, q]
          simp
        rw [q] at hne
        simp [-x_inA, hty, hsp, hz, z1, z2, z3, at1, kin_forms, e, er, hcut1, hcut2, hlc, hne, keep_nil]
      | true =>
        rw [q] at hne
        have q' := List.all_eq_true.mp q
        have hx0 : numD x = .int (numV x) := by unfold numD; rw [if_pos (q' x (by simp))]
        have hr0 : r.map numD = r.map fun y => Z.D.int (numV y) := List.map_congr_left fun y hy => by unfold numD; rw [if_pos (q' y (by simp [hy]))]
        have er : readW (x :: w :: r) = if isPa (.tup (.int (numV x) :: .str w :: r.map fun y => .int (numV y))) then .tup (.int (numV x) :: .str w :: r.map fun y => .int (numV y)) else .non := by
          simp only [readW, e, q]
          simp
        have hhas : Has (.tup (.int (numV x) :: .str w :: r.map fun y => Z.D.int (numV y))) := by
          obtain ⟨ps, e⟩ := has_ints r
          exact ⟨.tuple (.int (numV x) :: .str w :: ps), by simp [toPyD, toPyDs, e]⟩
        have hip := fun S => paper_ok hhas S
        rw [hx0, hr0] at hlc hne hcut3
        have hl3 : (r.map fun y => Z.D.int (numV y)).length = r.length := by simp
        rw [er]
        generalize (r.map fun y => Z.D.int (numV y)) = ns at *
        cases q9 : isPa (.tup (.int (numV x) :: .str w :: ns)) with
        | false => simp [-x_inA, hty, hsp, hz, z1, z2, z3, z4, at0, at1, kin_forms, e, hcut1, hcut2, hcut3, hlc, hne, hl3, hip, q9, keep_nil]
        | true => simp [-x_inA, hty, hsp, hz, z1, z2, z3, z4, at0, at1, kin_forms, e, hcut1, hcut2, hcut3, hlc, hne, hl3, hip, q9, keep_nil]
end Sp

/-! k92B: the law's own reading of a paper. -/
namespace Sp
open PySem L2 Z Lk92
variable {S : Sto}
theorem in12 (n : Int) (S : Sto) : inP (.int n) (.tup [.int 1, .int 2]) S = some (decide (n = 1) || decide (n = 2)) := by
  have e : inP (.int n) (.tup [.int 1, .int 2]) S = some (inPy (.int n) (.tuple [.int 1, .int 2])) := by
    show (match toPy (.int n) S, toPy (.tup [.int 1, .int 2]) S with
      | some p, some q => if inB p q = true then some (inPy p q) else none
      | _, _ => none) = _
    simp [toPy, toPyD, toPyDs, inB, PyData.plain, PyData.plainAll, PyData.depth]
  have e2 : inPy (.int n) (.tuple [.int 1, .int 2]) = (decide (n = 1) || decide (n = 2)) := by
    simp [inPy, PyData.eqv, eq_comm, Bool.beq_eq_decide_eq]
  rw [e, e2]
theorem py_strsT : ∀ ys : List Str, toPyDs (ys.map Z.D.str) = some (ys.map PyData.str)
  | [] => rfl
  | y :: ys => by simp [toPyDs, toPyD, py_strsT ys]
theorem depth_strsT : ∀ ys : List Str, PyData.depthAll (ys.map PyData.str) = 0
  | [] => rfl
  | y :: ys => by simp [PyData.depthAll, PyData.depth, depth_strsT ys]
theorem ne_emptyS (ys : List Str) (S : Sto) : dNe (.lst (ys.map .str)) (.lst []) S = .ok (.bl (!ys.isEmpty)) S := by
  have e1 : toPy (.lst (ys.map Z.D.str)) S = some (.list (ys.map PyData.str)) := toPy_of (by simp [toPyD, py_strsT])
  have e2 : toPy (.lst []) S = some (.list []) := rfl
  have e3 : plainB (.list (ys.map PyData.str)) (.list []) = true := by simp [plainB, PyData.plain, plain_strs, PyData.plainAll, PyData.depth, depth_strsT]
  have e4 : PyData.eqv (.list (ys.map PyData.str)) (.list []) = ys.isEmpty := by cases ys <;> simp [PyData.eqv, PyData.eqvAll]
  unfold dNe dDat
  rw [e1, e2]
  simp [e3, e4]
theorem notin_sign (c : Nat) (z : Str) (S : Sto) : dNotInA (.str ⟨#[c]⟩) (.str z) S = .ok (.bl (!decide (c ∈ z.cps.toList))) S := rfl
theorem signs_not (w : Str) (S : Sto) (a b c d e : Option Z.D) : lcL [] (Tgt.nm 5) [5] (mB (mBin dNotInA (mVar 5) (mC (.str "0123456789")))) (mVar 5) (signs w) [a, b, c, d, e, none] S =
    .ok (((w.cps.toList.filter fun c => !decide (c ∈ figs.cps.toList)).map fun c => (⟨#[c]⟩ : Str)).map .str) S := by
  unfold signs
  have := lc_src (g := Tgt.nm 5) (vs := [5]) (tm := mB (mBin dNotInA (mVar 5) (mC (.str "0123456789")))) (e := mVar 5) (τ := [a, b, c, d, e, none]) (ks := []) (S := S) (f := fun c : Nat => Z.D.str ⟨#[c]⟩) (keep_nil S) (fun c => !decide (c ∈ figs.cps.toList)) (fun c => .str ⟨#[c]⟩) w.cps.toList fun x hx => ⟨[a, b, c, d, e, some (.str ⟨#[x]⟩)], rfl, by
    have := notin_sign x "0123456789" S
    have e2 : (mBin dNotInA (mVar 5) (mC (.str "0123456789"))) [a, b, c, d, e, some (.str ⟨#[x]⟩)] S = .ok (.bl (!decide (x ∈ figs.cps.toList))) S := this
    show ((mBin dNotInA (mVar 5) (mC (.str "0123456789"))) [a, b, c, d, e, some (.str ⟨#[x]⟩)] S).bind asB = _
    rw [e2]; rfl, fun _ => rfl⟩
  rw [this, List.map_map]
  rfl
theorem dig_empty (w : Str) : ((w.cps.toList.filter fun c => !decide (c ∈ figs.cps.toList)).map fun c => (⟨#[c]⟩ : Str)).isEmpty = w.cps.toList.all fun c => decide (c ∈ figs.cps.toList) := by
  rw [Bool.eq_iff_iff, List.isEmpty_iff, List.map_eq_nil_iff, List.filter_eq_nil_iff, List.all_eq_true]
  simp
/-- one word looked at -/
theorem len_str (w : Str) (h : w.length ≤ 16777216) (S : Sto) : dLen [.str w] S = .ok (.int w.length) S := by
  show guardR (w.length ≤ sizeLine) _ = _
  rw [guardR, if_pos (by rw [hz]; exact h)]
noncomputable def wordB : MS := (sSeq (sIf (mOr (mB (mBin dNotInA (mCall dLen (aCons (mVar 3) aNil)) (mTup (aCons (mC (.int 1)) (aCons (mC (.int 2)) aNil))))) (mB (mBin dNe (mComp (iSeq (mVar 3)) (.nm 5) [5] (mB (mBin dNotInA (mVar 5) (mC (.str "0123456789")))) (mVar 5)) (mLst aNil)))) (sRet (mC .non)) sNil)
  (sSeq (sIf (mAnd (mB (mBin dEq (mCall dLen (aCons (mVar 3) aNil)) (mC (.int 2)))) (mB (mBin dEq (mBin dIxA (mVar 3) (mC (.int 0))) (mC (.str "0"))))) (sRet (mC .non)) sNil)
  (sExpr (mMeth "list" dAppend (mVar 2) (aCons (mCall dIntT (aCons (mVar 3) aNil)) aNil)))))
theorem word_wp {w : Str} (h : w.length ≤ 1000000) {a b e : Option Z.D} {n : Nat} {ds : List Z.D} (hg : S[n]? = some (.lst ds)) (hd : ds.length ≤ 1000000) {N : Tau → Sto → Prop} {T : Z.D → Sto → Prop}
    (hno : numB w = false → T .non S) (hyes : numB w = true → N [a, b, some (.loc n), some (.str w), e, none] (S.set n (.lst (ds ++ [.int (numV w)])))) :
    wpS (wordB [a, b, some (.loc n), some (.str w), e, none] S) N T := by
  have hlen := fun S => len_str w (by omega) S
  have hni := fun S => in12 (w.length : Int) S
  have hn2 : ∀ S, inP (.int 2) (.tup [.int 1, .int 2]) S = some true := fun S => in12 2 S
  have hit : ∀ S, itemsOf (.str w) S = some ⟨signs w, []⟩ := fun _ => rfl
  have hwl : w.cps.toList.length = w.length := by simp [Str.length]
  have hsl : (signs w).length ≤ 16777216 := by unfold signs; rw [List.length_map, hwl]; omega
  have hsg := fun S => signs_not w S a b (some (.loc n)) (some (.str w)) e
  have hne := fun S => ne_emptyS ((w.cps.toList.filter fun c => !decide (c ∈ figs.cps.toList)).map fun c => (⟨#[c]⟩ : Str)) S
  rw [dig_empty] at hne
  have hnB : numB w = (decide (1 ≤ w.length) && decide (w.length ≤ 2) && (w.cps.toList.all fun c => decide (c ∈ figs.cps.toList)) && !(decide (w.length = 2) && decide (w.cps.toList.head? = some 48))) := rfl
  have hl2 : ((((w.cps.toList.filter fun c => !decide (c ∈ figs.cps.toList)).map fun c => (⟨#[c]⟩ : Str)).map Z.D.str)).length ≤ 16777216 := by
    rw [List.length_map, List.length_map]
    exact Nat.le_trans (List.length_filter_le _ _) (by rw [hwl]; omega)
  have ha := app_list (y := .int (numV w)) hg (by omega)
  have hty := isTy_list hg
  generalize ((w.cps.toList.filter fun c => !decide (c ∈ figs.cps.toList)).map fun c => (⟨#[c]⟩ : Str)).map Z.D.str = bs at *
  unfold wordB
  by_cases q1 : w.length = 1 ∨ w.length = 2
  · have z1 : (decide ((w.length : Int) = 1) || decide ((w.length : Int) = 2)) = true := by
      rcases q1 with q | q <;> simp [q]
    rw [z1] at hni
    cases q3 : (w.cps.toList.all fun c => decide (c ∈ figs.cps.toList)) with
    | false =>
      rw [q3] at hne
      have hb : numB w = false := by rw [hnB, q3]; simp
      simp [hlen, hni, hn2, hit, hsl, hsg, hne, hz, hl2]
      exact hno hb
    | true =>
      rw [q3] at hne
      have hint : numB w = true → ∀ S, dIntT [.str w] S = .ok (.int (numV w)) S := fun hb S => by
        rw [x_intT (numB_val hb), guardR, if_pos (by have := numB_len hb; omega)]
      by_cases q4 : w.length = 2
      · obtain ⟨c, hc⟩ : ∃ c, w.cps.toList.head? = some c := by
          cases e : w.cps.toList with
          | nil => rw [e] at hwl; simp at hwl; omega
          | cons c r => exact ⟨c, rfl⟩
        have z3 : (w.length : Int) = 2 := by omega
        have hix : ∀ S, dIxA (.str w) (.int 0) S = .ok (.str ⟨#[c]⟩) S := fun S => by
          have e : atI w.cps.toList 0 = some c := by
            cases hw : w.cps.toList with
            | nil => rw [hw] at hc; cases hc
            | cons x r =>
              rw [hw] at hc
              cases hc
              simp [atI, ixN]
          show guardR (w.length ≤ sizeLine) (ofO ((atI w.cps.toList 0).map fun c => Z.D.str ⟨#[c]⟩) S) = _
          rw [e, guardR, if_pos (by rw [hz]; omega)]; rfl
        have h48 : ("0" : Str) = ⟨#[48]⟩ := by decide +kernel
        by_cases q5 : c = 48
        · subst q5
          have hb : numB w = false := by rw [hnB, hc]; simp [q4]
          have eq0 : ∀ S, dEq (.str ⟨#[48]⟩) (.str "0") S = .ok (.bl true) S := fun S => by rw [eqS, h48]; simp
          simp [hlen, hni, hn2, hit, hsl, hsg, hne, hz, hl2, z3, hix, eq0]
          exact hno hb
        · have hb : numB w = true := by rw [hnB, q3, hc]; simp [q4, q5]
          have eq0 : ∀ S, dEq (.str ⟨#[c]⟩) (.str "0") S = .ok (.bl false) S := fun S => by
            rw [eqS, h48]
            have : ((⟨#[c]⟩ : Str) == ⟨#[48]⟩) = false := by simp [q5]
            rw [this]
          simp [hlen, hni, hn2, hit, hsl, hsg, hne, hz, hl2, z3, hix, eq0, hint hb, ha, hty]
          exact hyes hb
      · have z3 : ¬ (w.length : Int) = 2 := by omega
        have hb : numB w = true := by rw [hnB, q3]; simp; omega
        simp [hlen, hni, hn2, hit, hsl, hsg, hne, hz, hl2, z3, hint hb, ha, hty]
        exact hyes hb
  · have z1 : (decide ((w.length : Int) = 1) || decide ((w.length : Int) = 2)) = false := by
      simp; omega
    rw [z1] at hni
    have hb : numB w = false := by rw [hnB]; simp; omega
    simp [hlen, hni, hz]
    exact hno hb
theorem lread92 {t : Str} (h : t.length ≤ 100000) (S : Sto) : wpR (m_law_read_paper [.str t] S) fun v S' => v = readP t ∧ Fr S.length S S' := by
  have hsp : dSplit (.str t) [.str " "] S = .ok (.lst ((Txt.split t spc).map .str)) S := by
    rw [x_split]
    show guardR _ _ = _
    rw [guardR, if_pos ⟨by decide +kernel, by rw [hz]; omega⟩]; rfl
  have h1 : (Txt.split t spc).length ≤ 100001 := Nat.le_trans (splitS_few t) (by omega)
  have h2 : ∀ w ∈ Txt.split t spc, w.length ≤ 1000000 := fun w hw => Nat.le_trans (partS_short hw) (by omega)
  have hr : readP t = readW (Txt.split t spc) := rfl
  rw [hr]
  generalize Txt.split t spc = ws at *
  have hty : isTy "str" (.str t) S = true := rfl
  have hF := Fr.refl S.length S
  unfold m_law_read_paper
  match ws, h1, h2, hsp with
  | [], _, _, hsp => simp [hty, hsp, hz, readW, -x_split]; exact hF
  | [x], _, _, hsp => simp [hty, hsp, hz, readW, -x_split]; exact hF
  | x :: w :: r, h1, h2, hsp =>
    simp only [List.length_cons] at h1
    have z1 : ¬ ((r.length : Int) + 1 + 1 < 2) := by omega
    have hcut1 : cutD (Z.D.str x :: .str w :: r.map Z.D.str) none (some 1) = [.str x] := by rw [cut_take (by decide)]; rfl
    have hcut2 : cutD (Z.D.str x :: .str w :: r.map Z.D.str) (some 2) none = r.map Z.D.str := cut_fr2
    have z2 : 1 + r.length ≤ 16777216 := by omega
    have z3 : r.length + 1 ≤ 16777216 := by omega
    rw [x_run, wpS_seq]
    refine ⟨rfl, ?_⟩
    simp [hty, hsp, hz, z1, z2, z3, -x_split, -wpS_seq]
    rw [wpS_seq]
    simp [z1, -wpS_seq]
    rw [wpS_seq]
    simp [hz, -wpS_seq]
    have gn : (S ++ [C.lst ([] : List Z.D)])[S.length]? = some (.lst []) := by simp
    have F1 : Fr S.length S (S ++ [C.lst []]) := Fr.app (Nat.le_refl _)
    generalize S ++ [C.lst ([] : List Z.D)] = S1 at *
    rw [wpS_seq]
    simp [hcut1, hcut2, hz, z2, -wpS_seq]
    refine for_src (f := Z.D.str) (fun as τ S' => ∃ (pre : List Str) (y : Option Z.D), x :: r = pre ++ as ∧ pre.all numB = true ∧ τ = [some (.str t), some (.lst (.str x :: .str w :: r.map Z.D.str)), some (.loc S.length), y, none, none] ∧ S'[S.length]? = some (.lst (pre.map fun y => .int (numV y))) ∧ Fr S.length S S')
      (fun _ _ S _ => keep_nil S) ?_ ?_ (x :: r) _ _ ⟨[], none, rfl, rfl, rfl, gn, F1⟩
    · rintro a as τ S2 ⟨pre, y, e1, e2, rfl, e3, e4⟩
      have hpl : pre.length ≤ 100001 := by
        have := congrArg List.length e1
        simp at this; omega
      refine ⟨_, rfl, ?_⟩
      have ham : a ∈ x :: r := by rw [e1]; simp
      refine word_wp (w := a) (h2 a (by rcases List.mem_cons.mp ham with rfl | hm <;> simp [*])) e3 (by simp; omega) (fun hb => ?_) (fun hb => ?_)
      · have hall : (x :: r).all numB = false := by
          rw [List.all_eq_false]
          exact ⟨a, ham, by simp [hb]⟩
        refine ⟨?_, e4⟩
        simp only [readW, hall]
        split <;> rfl
      · refine ⟨pre ++ [a], _, by simp [e1], by simp [e2, hb], rfl, ?_, e4.trans (Fr.set (Nat.le_refl _))⟩
        rw [at_set e3]
        simp
    · rintro τ S2 ⟨pre, y, e1, e2, rfl, e3, e4⟩
      rw [List.append_nil] at e1
      subst e1
      have hn : (x :: r).map (fun y => Z.D.int (numV y)) = .int (numV x) :: r.map fun y => .int (numV y) := rfl
      rw [hn] at e3
      have hcut3 : cutD (Z.D.int (numV x) :: r.map fun y => Z.D.int (numV y)) (some 1) none = r.map fun y => .int (numV y) := cut_fr1
      have hhas : Has (.tup (.int (numV x) :: .str w :: r.map fun y => Z.D.int (numV y))) := by
        obtain ⟨ps, e⟩ := has_ints r
        exact ⟨.tuple (.int (numV x) :: .str w :: ps), by simp [toPyD, toPyDs, e]⟩
      have hl3 : (r.map fun y => Z.D.int (numV y)).length = r.length := by simp
      have hrd : readW (x :: w :: r) = if isPa (.tup (.int (numV x) :: .str w :: r.map fun y => .int (numV y))) then .tup (.int (numV x) :: .str w :: r.map fun y => .int (numV y)) else .non := by
        simp only [readW, e2, if_true]
        cases e : valG forms w with
        | some ms => simp
        | none => simp [isPa, e]
      rw [hrd]
      have hlw : (Z.D.str x :: Z.D.str w :: r.map Z.D.str).length ≤ 16777216 := by simp; omega
      generalize (r.map fun y => Z.D.int (numV y)) = nsD at *
      have hix0 : dIxA (.loc S.length) (.int 0) S2 = .ok (.int (numV x)) S2 := by
        have e : dLook (.loc S.length) (.int 0) S2 = none := by simp [dLook, e3]
        unfold dIxA
        rw [e]
        simp [dIx, seqR, listR, e3, atI, ixN]
      have hsl : dSl (.loc S.length) (some 1) none S2 = .ok (.lst nsD) S2 := by
        simp [dSl, listR, e3, hcut3]
      have hz5 : 2 + nsD.length ≤ 16777216 := by omega
      rw [wpS_seq]
      simp [hix0, hsl, at1, hz, hz5, -wpS_seq]
      have hsh : ∀ ds, Z.D.tup (.int (numV x) :: .str w :: nsD) = .tup ds → ds.length ≤ 1000000 := fun ds e => by
        cases e; simp; omega
      obtain ⟨S3, ep, fp⟩ := paper5_okG hhas hsh S2
      have F3 := e4.trans (fp.mono e4.1)
      cases hq : isPa (.tup (.int (numV x) :: .str w :: nsD)) with
      | true =>
        rw [hq] at ep
        simp [ep]
        exact F3
      | false =>
        rw [hq] at ep
        simp [ep]
        exact F3
end Sp

/-! k92C: papers and rolls read, by the program and by the law. -/
namespace Sp
open PySem L2 Z Lk92
variable {S : Sto}
def oD : Option Pa → Z.D
  | none => .non
  | some p => p.D
def oPy : Option Pa → PyData
  | none => .none
  | some p => .tuple (p.row.map keyPy)
theorem readP_o (t : Str) : ∃ o : Option Pa, readP t = oD o ∧ ∀ p, o = some p → okP p := by
  have key : ∀ ws : List Str, readW ws = .non ∨ ∃ p, okP p ∧ readW ws = p.D := fun ws => by
    unfold readW
    split
    · split
      · split
        · simp only
          split
          · rename_i h
            obtain ⟨p, hp, e⟩ := pa_of h
            exact .inr ⟨p, hp, e⟩
          · exact .inl rfl
        · exact .inl rfl
      · exact .inl rfl
    · exact .inl rfl
  rcases key (Txt.split t spc) with h | ⟨p, hp, h⟩
  · exact ⟨none, h, fun p h => by cases h⟩
  · exact ⟨some p, h, fun q e => by cases e; exact hp⟩
theorem py_o (o : Option Pa) : toPyD (oD o) = some (oPy o) := by
  cases o with
  | none => rfl
  | some p => exact py_rowD p.row
theorem py_os : ∀ os : List (Option Pa), toPyDs (os.map oD) = some (os.map oPy)
  | [] => rfl
  | o :: os => by simp [toPyDs, py_o o, py_os os]
theorem plain_os : ∀ os : List (Option Pa), PyData.plainAll (os.map oPy) = true
  | [] => rfl
  | o :: os => by
    have : PyData.plain (oPy o) = true := by cases o <;> simp [oPy, PyData.plain, plain_keys]
    simp [PyData.plainAll, this, plain_os os]
theorem eqv_o (o : Option Pa) : PyData.eqv (oPy o) .none = decide (o = none) := by
  cases o <;> simp [oPy, PyData.eqv]
theorem non_os (os : List (Option Pa)) (S : Sto) : dInA .non (.lst (os.map oD)) S = .ok (.bl (decide (none ∈ os))) S := by
  rw [non_in (py_os os) (plain_os os)]
  congr 2
  rw [List.any_map, Bool.eq_iff_iff, List.any_eq_true, decide_eq_true_eq]
  constructor
  · rintro ⟨o, ho, h⟩
    simp only [Function.comp, eqv_o, decide_eq_true_eq] at h
    exact h ▸ ho
  · intro h
    exact ⟨none, h, by simp [eqv_o]⟩
theorem idx_os {os : List (Option Pa)} (h : none ∈ os) (hl : os.length ≤ 16777216) : ∃ i : Nat, i < os.length ∧ ∀ S, dIndexP (.lst (os.map oD)) [.non] S = .ok (.int (i : Int)) S := by
  have hx : ∃ i, (os.map oPy).findIdx? (fun y => PyData.eqv y .none) = some i ∧ i < os.length := by
    cases q : (os.map oPy).findIdx? (fun y => PyData.eqv y .none) with
    | none =>
      rw [List.findIdx?_eq_none_iff] at q
      have := q (oPy none) (List.mem_map.mpr ⟨none, h, rfl⟩)
      rw [eqv_o] at this
      simp at this
    | some i =>
      refine ⟨i, rfl, ?_⟩
      have := (List.findIdx?_eq_some_iff_findIdx_eq.mp q).1
      simpa using this
  obtain ⟨i, hi, hlt⟩ := hx
  refine ⟨i, hlt, fun S => ?_⟩
  have e1 : toPy (.lst (os.map oD)) S = some (.list (os.map oPy)) := toPy_of (by simp [toPyD, py_os])
  have e2 : toPy .non S = some .none := rfl
  have e3 : findOk (os.map oPy) .none = true := by simp [findOk, plain_os, PyData.plain, PyData.depth, hl]
  have e4 : SeqAt.dataPlace (os.map oPy) .none = some i := hi
  show (match toPy (.lst (os.map oD)) S, toPy .non S with
    | some (.list ps), some q => if findOk ps q = true then ofO ((SeqAt.dataPlace ps q).map fun j => Z.D.int (j : Nat)) S else .bad
    | _, _ => .bad) = _
  rw [e1, e2]
  simp [e3, e4]
/-- all are papers -/
theorem all_some : ∀ {os : List (Option Pa)}, none ∉ os → ∃ ps : List Pa, os = ps.map some
  | [], _ => ⟨[], rfl⟩
  | none :: os, h => by simp at h
  | some p :: os, h => by
    obtain ⟨ps, rfl⟩ := all_some (os := os) fun z => h (by simp [z])
    exact ⟨p :: ps, rfl⟩
/-- what reading tells: the thing that comes out, or the place -/
inductive Told : Z.R Z.D → Sto → Z.D → Prop
  | ok (d : Z.D) (S : Sto) : Told (.ok d S) S (.tup [.str "told", d])
  | no (i : Int) (S : Sto) : Told (.ex "NoText" [("at", .int i)] S) S (.tup [.str "text", .int i])
theorem seq_go {a b : MS} {τ τ' : Tau} {S S' : Sto} (h : a τ S = .nx τ' S') : sSeq a b τ S = b τ' S' := by
  unfold sSeq; rw [h]
theorem raiseF1 {τ : Tau} {ma : MA} {d : Z.D} (h : ma τ S = .ok [d] S) : sRaiseF "NoText" ["at"] ma τ S = .ex τ "NoText" [("at", d)] S := by
  unfold sRaiseF
  rw [h]
  rfl
theorem isa_txt (t : Str) (S : Sto) : dIsa [.str t, .ob (.ty "str")] S = .ok (.bl true) S := isa_str (d := .str t) rfl
theorem pread92 {t : Str} (h : t.length ≤ 100000) : ∃ v, (∀ S, Told (m_paper_read [.str t] S) S v) ∧ v = (match readP t with | .non => .tup [.str "text", .int 0] | d => .tup [.str "told", d]) := by
  have hp := fun S => paper_in_ok t (by omega) (Nat.le_trans (splitS_few t) (by omega)) (fun w hw => Nat.le_trans (partS_short hw) (by omega)) S
  obtain ⟨o, ho, -⟩ := readP_o t
  rw [ho] at hp ⊢
  cases o with
  | none =>
    refine ⟨_, fun S => ?_, rfl⟩
    have hp := hp S
    have e : m_paper_read [.str t] S = .ex "NoText" [("at", .int 0)] S := by
      unfold m_paper_read
      refine run_exT (τ' := [some (.str t), some .non]) rfl ?_
      refine (seq_nilT (if_noT (S' := S) (by simp [isa_txt]))).trans ?_
      have h2 : sAsg 1 (mCall m_paper_in (aCons (mVar 0) aNil)) [some (.str t), none] S = .nx [some (.str t), some .non] S := by
        unfold sAsg
        simp [hp, oD]
      refine (seq_go h2).trans (seq_exS ((if_exT (S' := S) (by simp [dIsN, Z.isNon])).trans (raiseF1 (d := .int 0) (by simp))))
    rw [e]
    exact .no 0 S
  | some p =>
    refine ⟨_, fun S => ?_, rfl⟩
    have hp := hp S
    have e : m_paper_read [.str t] S = .ok p.D S := by
      refine wp_eq ?_
      have hn : ∀ S, dIsN false p.D .non S = .ok (.bl false) S := fun _ => rfl
      simp only [oD] at hp
      generalize p.D = pd at *
      unfold m_paper_read
      simp [isa_txt, hp, hn]
    rw [e]
    exact .ok _ S
theorem ne_of_eq {x y : Z.D} {b : Bool} (h : dEq x y S = .ok (.bl b) S) : dNe x y S = .ok (.bl (!b)) S := by
  unfold dEq dDat at h
  unfold dNe dDat
  split at h
  · rename_i p q e1 e2
    split at h
    · rename_i hp
      simp only [e1, e2]
      rw [if_pos hp]
      cases h
      rfl
    · cases h
  · cases h
theorem parts_os : ∀ ws : List Str, ∃ os : List (Option Pa), ws.map readP = os.map oD ∧ os.length = ws.length ∧ ∀ p, some p ∈ os → okP p
  | [] => ⟨[], rfl, rfl, fun p h => by cases h⟩
  | w :: ws => by
    obtain ⟨os, h1, h2, h3⟩ := parts_os ws
    obtain ⟨o, ho, hp⟩ := readP_o w
    refine ⟨o :: os, by simp [h1, ho], by simp [h2], fun p h => ?_⟩
    rcases List.mem_cons.mp h with h | h
    · exact hp p h.symm
    · exact h3 p h
theorem ro_sort {ps : List Pa} (h : ∀ p ∈ ps, okP p) : isRo (.tup (ps.map Pa.D)) = (decide (ps.length ≤ 24) && decide (ps = sortP ps)) := by
  rw [isRo_ps]
  have h1 : (ps.all fun p => isPa p.D) = true := List.all_eq_true.mpr fun p hp => isPa_of (h p hp)
  rw [h1, Bool.and_true]
  congr 1
  rw [Bool.eq_iff_iff, decide_eq_true_eq, adj_pair]
  exact ⟨fun h => (sortP_self h).symm, fun h => by rw [h]; exact sortP_up ps⟩
theorem gq_text {i : Int} (h : -10 ≤ i ∧ i ≤ 1000) : Gq [3, 64, 8] (.tup [.str "text", .int i]) = true := Gq_tup (by simp) fun d hd => by
  simp only [List.mem_cons, List.not_mem_nil, or_false] at hd
  rcases hd with rfl | rfl
  · exact Gq_s (by decide +kernel)
  · exact Gq_i (by omega)
theorem gq_told {d : Z.D} (h : Gq [64, 8] d = true) : Gq [3, 64, 8] (.tup [.str "told", d]) = true := Gq_tup (by simp) fun x hd => by
  simp only [List.mem_cons, List.not_mem_nil, or_false] at hd
  rcases hd with rfl | rfl
  · exact Gq_s (by decide +kernel)
  · exact h
theorem rread92 {t : Str} (h : t.length ≤ 100000) (hs : semis t ≤ 40) : ∃ v, (∀ S, Told (m_roll_read [.str t] S) S v) ∧ (∀ S, wpR (m_law_read_roll [.str t] S) fun d S' => d = v ∧ Fr S.length S S') ∧ Gq [3, 64, 8] v = true := by
  by_cases he : t = "empty"
  · subst he
    have e2 : ∀ S, dEq (.str "empty") (.str "empty") S = .ok (.bl true) S := fun S => by rw [eqS]; simp
    refine ⟨.tup [.str "told", .tup []], fun S => ?_, fun S => ?_, by decide +kernel⟩
    · have e : m_roll_read [.str "empty"] S = .ok (.tup []) S := by
        refine wp_eq ?_
        unfold m_roll_read
        simp [isa_txt, e2, hz]
      rw [e]
      exact .ok _ S
    · have hF := Fr.refl S.length S
      unfold m_law_read_roll
      simp [e2, hz]
      exact hF
  · have e2 : ∀ S, dEq (.str t) (.str "empty") S = .ok (.bl false) S := fun S => by
      rw [eqS]
      have : (t == ("empty" : Str)) = false := by simpa using he
      rw [this]
    have hsp : ∀ S, dSplit (.str t) [.str "; "] S = .ok (.lst ((Txt.split t semi).map .str)) S := fun S => by
      rw [x_split]
      show guardR _ _ = _
      rw [guardR, if_pos ⟨by decide +kernel, by rw [hz]; omega⟩]; rfl
    have hfew := split_few t
    have hsh : ∀ w ∈ Txt.split t semi, w.length ≤ 100000 := fun w hw => Nat.le_trans (partR_short hw) h
    obtain ⟨os, hos, hol, hok⟩ := parts_os (Txt.split t semi)
    generalize Txt.split t semi = ws at *
    have hwl : ws.length ≤ 41 := by omega
    have hty : ∀ t S, isTy "str" (.str t) S = true := fun _ _ => rfl
    have hlc : ∀ (a : Option Z.D) (S : Sto), lcL [] (Tgt.nm 2) [2] tYesM (mCall m_paper_in (aCons (mVar 2) aNil)) (ws.map .str) [some (.str t), a, none] S = .ok (os.map oD) S := fun a S => by
      have := lc_src (g := Tgt.nm 2) (vs := [2]) (tm := tYesM) (e := mCall m_paper_in (aCons (mVar 2) aNil)) (τ := [some (.str t), a, none]) (ks := []) (S := S) (f := Z.D.str) (keep_nil S) (fun _ => true) readP ws fun w hw => ⟨[some (.str t), a, some (.str w)], rfl, rfl, fun _ => by
        have := paper_in_ok w (by have := hsh w hw; omega) (Nat.le_trans (splitS_few w) (by have := hsh w hw; omega)) (fun x hx => Nat.le_trans (partS_short hx) (by have := hsh w hw; omega)) S
        simp [this]⟩
      have e : ws.filter (fun _ => true) = ws := by simp
      rw [e, hos] at this
      exact this
    have hll : ∀ (a : Option Z.D) (S0 S : Sto), Fr S0.length S0 S → wpR (lcL [] (Tgt.nm 2) [2] tYesM (mCall m_law_read_paper (aCons (mVar 2) aNil)) (ws.map .str) [some (.str t), a, none] S) fun ys S' => ys = os.map oD ∧ Fr S0.length S0 S' := fun a S0 S hF => by
      have := lc_fr (f := Z.D.str) (g := Tgt.nm 2) (vs := [2]) (tm := tYesM) (e := mCall m_law_read_paper (aCons (mVar 2) aNil)) (τ := [some (.str t), a, none]) (S0 := S0) (fun _ => true) readP ws (fun w hw S1 f1 => ⟨[some (.str t), a, some (.str w)], rfl, rfl, f1, fun _ => by
        simp
        refine wpR_imp (lread92 (hsh w hw) S1) fun v S2 ⟨e, f2⟩ => ⟨e, f1.trans (f2.mono f1.1)⟩⟩) S hF
      have e : ws.filter (fun _ => true) = ws := by simp
      rw [e, hos] at this
      exact this
    have hr6 : (ws.map Z.D.str).length ≤ 16777216 := by simp; omega
    have hs6 : (os.map oD).length ≤ 16777216 := by simp; omega
    have hsl : ∀ t S, isTy "str" (.str t) S = true := fun _ _ => rfl
    have hli : ∀ ds S, isTy "list" (.lst ds) S = true := fun _ _ => rfl
    have hA : ∀ S, sAsg 1 (mComp (iSeq (mMeth "str" dSplit (mVar 0) (aCons (mC (.str "; ")) aNil))) (.nm 2) [2] tYesM (mCall m_paper_in (aCons (mVar 2) aNil))) [some (.str t), none, none] S = .nx [some (.str t), some (.lst (os.map oD)), none] S := fun S => by
      have hlc := hlc none S
      generalize ws.map Z.D.str = yd at *
      generalize os.map oD = od at *
      unfold sAsg
      simp [hsp, hlc, hz, hr6, hs6, hsl]
    by_cases hn : none ∈ os
    · obtain ⟨i, hi, hix⟩ := idx_os hn (by omega)
      have hnon : ∀ S, dInA .non (.lst (os.map oD)) S = .ok (.bl true) S := fun S => by rw [non_os]; simp [hn]
      refine ⟨.tup [.str "text", .int i], fun S => ?_, fun S => ?_, gq_text (by omega)⟩
      · have e : m_roll_read [.str t] S = .ex "NoText" [("at", .int i)] S := by
          have hA := hA S
          generalize os.map oD = od at *
          unfold m_roll_read
          refine run_exT (τ' := [some (.str t), some (.lst od), none]) rfl ?_
          refine (seq_nilT (if_noT (S' := S) (by simp [isa_txt]))).trans ?_
          refine (seq_nilT (if_noT (S' := S) (by simp [e2]))).trans ?_
          refine (seq_go hA).trans (seq_exS ((if_exT (S' := S) (by simp [-x_inA, hnon])).trans (raiseF1 (d := .int i) (by simp [hix, hli]))))
        rw [e]
        exact .no i S
      · have hll := hll none S S (Fr.refl _ _)
        generalize ws.map Z.D.str = yd at *
        generalize os.map oD = od at *
        unfold m_law_read_roll
        simp [-x_inA, -x_split, e2, hsp, hz, hr6, hs6, hsl]
        refine wpR_imp hll fun ys S' ⟨e, f⟩ => ?_
        subst e
        simp [-x_inA, hnon, hix, hli, hs6, hz]
        exact f
    · obtain ⟨ps, rfl⟩ := all_some hn
      have eod : (ps.map some).map oD = ps.map Pa.D := by rw [List.map_map]; rfl
      have hnon : ∀ S, dInA .non (.lst ((ps.map some).map oD)) S = .ok (.bl false) S := fun S => by rw [non_os]; simp
      rw [eod] at hnon hll hA hs6
      have hpl : ps.length ≤ 41 := by simp at hol; omega
      have hpo : ∀ p ∈ ps, okP p := fun p hp => hok p (by simp [hp])
      have hro := fun S => roll_ok (has_ps ps) S
      rw [ro_sort hpo] at hro
      have hso := fun S => sortRowsP (d := .lst (ps.map Pa.D)) (ps := ps) (S := S) rfl (by omega)
      have hne := fun S => ne_of_eq (eq_pasL ps (sortP ps) S)
      have hln : ∀ S, dLen [.lst (ps.map Pa.D)] S = .ok (.int ps.length) S := fun S => by simp [hs6, hz]
      have hg : Gq [64, 8] (.tup (ps.map Pa.D)) = true := Gq_tup (by simp; omega) fun d hd => by
        obtain ⟨p, hp, rfl⟩ := List.mem_map.mp hd
        exact Gq_pa (hpo p hp)
      have htu : ∀ S, dTuple [.lst (ps.map Pa.D)] S = .ok (.tup (ps.map Pa.D)) S := fun S => by simp [hs6, hz]
      clear hlc hos hty eod
      generalize (sortP ps).map Pa.D = sd at *
      have hpl2 : (ps.map Pa.D).length = ps.length := by simp
      generalize hpd : ps.map Pa.D = pd at *
      clear hpd
      by_cases hb : ps.length ≤ 24 ∧ ps = sortP ps
      · refine ⟨.tup [.str "told", .tup pd], fun S => ?_, fun S => ?_, gq_told hg⟩
        · have hro : ∀ S, Pg.m_is_roll [.tup pd] S = .ok (.bl true) S := fun S => by rw [hro]; simp [← hb.2, hb.1]
          have e : m_roll_read [.str t] S = .ok (.tup pd) S := by
            have hA := hA S
            unfold m_roll_read
            refine wp_eq ?_
            rw [x_run]
            simp [-wpS_seq]
            rw [wpS_seq]
            simp [-wpS_seq, isa_txt]
            rw [wpS_seq]
            simp [-wpS_seq, e2]
            rw [seq_go hA]
            simp [-x_inA, hnon, hro, htu]
          rw [e]
          exact .ok _ S
        · have hll := hll none S S (Fr.refl _ _)
          generalize ws.map Z.D.str = yd at *
          have h24 : ¬ (24 : Int) < (ps.length : Int) := by omega
          unfold m_law_read_roll
          simp [-x_inA, -x_split, e2, hsp, hz, hr6, hs6, hsl]
          refine wpR_imp hll fun ys S' ⟨e, f⟩ => ?_
          subst e
          have hdq : decide (ps = sortP ps) = true := decide_eq_true hb.2
          simp [-x_inA, hnon, hso, hne, hs6, hz, hpl2, hdq, h24]
          exact ⟨by omega, fun _ => f⟩
      · refine ⟨.tup [.str "text", .int (-1)], fun S => ?_, fun S => ?_, gq_text (by omega)⟩
        · have hro : ∀ S, Pg.m_is_roll [.tup pd] S = .ok (.bl false) S := fun S => by
            rw [hro, ← Bool.decide_and, decide_eq_false hb]
          have e : m_roll_read [.str t] S = .ex "NoText" [("at", .int (-1))] S := by
            have hA := hA S
            unfold m_roll_read
            refine run_exT (τ' := [some (.str t), some (.lst pd), none]) rfl ?_
            refine (seq_nilT (if_noT (S' := S) (by simp [isa_txt]))).trans ?_
            refine (seq_nilT (if_noT (S' := S) (by simp [e2]))).trans ?_
            refine (seq_go hA).trans ?_
            refine (seq_nilT (if_noT (S' := S) (by simp [-x_inA, hnon]))).trans ?_
            refine seq_exS ((if_exT (S' := S) (by simp [htu, hro])).trans (raiseF1 (d := .int (-1)) (by simp)))
          rw [e]
          exact .no (-1) S
        · have hll := hll none S S (Fr.refl _ _)
          generalize ws.map Z.D.str = yd at *
          unfold m_law_read_roll
          simp [-x_inA, -x_split, e2, hsp, hz, hr6, hs6, hsl]
          refine wpR_imp hll fun ys S' ⟨e, f⟩ => ?_
          subst e
          by_cases h24 : (24 : Int) < (ps.length : Int)
          · simp [-x_inA, hnon, hso, hne, hs6, hz, hpl2, h24]
            exact ⟨f, fun q => absurd h24 (by omega)⟩
          · have hq : ¬ ps = sortP ps := fun e => hb ⟨by omega, e⟩
            simp [-x_inA, hnon, hso, hne, hs6, hz, hpl2, h24, hq]
            exact fun _ => f
end Sp

/-! k92R: texts, bent texts, is it right. -/
namespace Sp
open PySem L2 Z Lk92
variable {l : Nat} {S S' : Sto} {Q : Z.D → Sto → Prop}
/-! ### texts cut and joined -/
theorem cutS_sub (z : Str) (a b : Option Int) : (TL.tl (cutS z a b)).Sublist (TL.tl z) := (List.take_sublist _ _).trans (List.drop_sublist _ _)
theorem Tt.cut {n s : Nat} {t : Str} (h : Tt n s t) (a b : Option Int) : Tt n s (cutS t a b) := h.sub (cutS_sub t a b)
theorem atS_mem {cs : List Nat} {i : Int} (h0 : 0 ≤ i) (h : i < cs.length) : ∃ d, atI cs i = some d ∧ d ∈ cs := by
  have hn : i.toNat < cs.length := by omega
  refine ⟨cs[i.toNat], ?_, List.getElem_mem hn⟩
  unfold atI ixN
  simp [h0, h]
theorem tt_sign {c : Nat} (h : c < 16 ^ 8) : Tt 1 1 ⟨#[c]⟩ := ⟨Nat.le_refl 1, by
  unfold semis
  show ([c] : List Nat).count 59 ≤ 1
  exact List.count_le_length, fun d hd => by
  have : d = c := by simpa using hd
  exact this ▸ h⟩
def sgns : Str := " !\"#$&'()*+,-./0123456789:;<=>?@ABCDEFGHIJKLMNOPQRSTUVWXYZ[\\]^_`abcdefghijklmnopqrstuvwxyz{|}~	\n"
theorem sgns_len : sgns.length = 96 := by decide +kernel
theorem sgns_ok : ∀ c ∈ sgns.cps.toList, c < 16 ^ 8 := by decide +kernel
def nears : List Str := [" ", "0", "1", "6", ";", "00", "hold", "9"]
theorem nears_ok : ∀ w ∈ nears, Tt 4 1 w := by
  have h : ∀ w ∈ nears, w.length ≤ 4 ∧ semis w ≤ 1 ∧ ∀ c ∈ TL.tl w, c < 16 ^ 8 := by decide +kernel
  exact fun w hw => ⟨(h w hw).1, (h w hw).2.1, (h w hw).2.2⟩
theorem x_ixSt (x : Str) (i : Int) (S : Sto) : dIxA (.str x) (.int i) S = guardR (x.length ≤ sizeLine) (ofO ((atI x.cps.toList i).map fun c => Z.D.str ⟨#[c]⟩) S) := rfl
theorem bent92 (hp : Pen l S) {n s : Nat} {t : Str} (ht : Tt n s t) (hn : n ≤ 100000) (k : ∀ u S', Tt (2 * n + 4) (2 * s + 1) u → PF l S S' → Q (.str u) S') : wpR (m_law_bent [.loc l, .str t] S) Q := by
  have hl := ht.ln
  have hlen : ∀ S, dLen [.str t] S = .ok (.int t.length) S := fun S => len_str t (by omega) S
  have hlg : ∀ S, dLen [.str sgns] S = .ok (.int 96) S := fun S => by rw [len_str sgns (by rw [sgns_len]; omega), sgns_len]; rfl
  have hsl : ∀ (a b : Option Int) (S : Sto), dSl (.str t) a b S = .ok (.str (cutS t a b)) S := fun a b S => by
    show guardR (t.length ≤ sizeLine) _ = _
    rw [guardR, if_pos (by rw [hz]; omega)]
  have hcl : ∀ a b, (cutS t a b).length ≤ n := fun a b => (ht.cut a b).ln
  have hadd : ∀ (x y : Str) (S : Sto), x.length + y.length ≤ 1000000 → dAdd (.str x) (.str y) S = .ok (.str (x ++ y)) S := fun x y S h => by
    show guardR (x.length + y.length ≤ sizeLine) _ = _
    rw [guardR, if_pos (by rw [hz]; omega)]
  have es : (.str " !\"#$&'()*+,-./0123456789:;<=>?@ABCDEFGHIJKLMNOPQRSTUVWXYZ[\\]^_`abcdefghijklmnopqrstuvwxyz{|}~	\n" : Z.D) = .str sgns := rfl
  unfold m_law_bent
  rw [x_run, wpS_seq, es]
  refine ⟨rfl, ?_⟩
  have hix : ∀ (i : Int) (S : Sto), 0 ≤ i → i < 96 → ∃ g : Str, Tt 1 1 g ∧ dIxA (.str sgns) (.int i) S = .ok (.str g) S := fun i S h0 h1 => by
    obtain ⟨c, ec, hc⟩ := atS_mem (cs := sgns.cps.toList) h0 (by
      have : sgns.cps.toList.length = 96 := by have := sgns_len; simpa [Str.length] using this
      omega)
    refine ⟨⟨#[c]⟩, tt_sign (sgns_ok c hc), ?_⟩
    rw [x_ixSt, guardR, if_pos (by rw [hz, sgns_len]; omega), ec]
    rfl
  generalize sgns = sg at *
  simp [hlen, hlg, -wpS_seq]
  rw [wpS_seq]
  simp [hlen, hlg, -wpS_seq]
  refine draw5 hp (by omega) (by omega) fun r1 S1 a1 a2 f1 => ?_
  refine draw5 f1.pen (by decide) (by decide) fun r2 S2 b1 b2 f2 => ?_
  obtain ⟨g, hg, eg⟩ := hix r2 S2 b1 b2
  simp [eg, setAll, -wpS_seq]
  rw [wpS_seq]
  simp [hz, -wpS_seq]
  refine draw5 f2.pen (by decide) (by decide) fun r3 S3 c1 c2 f3 => ?_
  obtain ⟨y, ey, hy, -⟩ := atI_mem (ds := nears.map Z.D.str) c1 (by simpa [nears] using c2)
  obtain ⟨w, hw, rfl⟩ := List.mem_map.mp hy
  have hw := nears_ok w hw
  have ey' : atI [Z.D.str " ", .str "0", .str "1", .str "6", .str ";", .str "00", .str "hold", .str "9"] r3 = some (.str w) := ey
  simp [ey', -wpS_seq]
  have q1 := ht.cut none (some r1)
  have q2 := ht.cut (some r1) none
  have q3 := ht.cut (some (r1 + 1)) none
  have s1 := fun S => hsl none (some r1) S
  have s2 := fun S => hsl (some r1) none S
  have s3 := fun S => hsl (some (r1 + 1)) none S
  generalize cutS t none (some r1) = u1 at *
  generalize cutS t (some r1) none = u2 at *
  generalize cutS t (some (r1 + 1)) none = u3 at *
  have n1 := q1.ln
  have n2 := q2.ln
  have n3 := q3.ln
  have n4 := hg.ln
  have n5 := hw.ln
  have p1 := fun S => hadd u1 g S (by omega)
  have p2 := fun S => hadd (u1 ++ g) u2 S (by rw [str_len_app]; omega)
  have p3 := fun S => hadd (u1 ++ g) u3 S (by rw [str_len_app]; omega)
  have p4 := fun S => hadd u1 u3 S (by omega)
  have p5 := fun S => hadd u1 w S (by omega)
  have p6 := fun S => hadd (u1 ++ w) u2 S (by rw [str_len_app]; omega)
  have p7 := fun S => hadd (u1 ++ w) u3 S (by rw [str_len_app]; omega)
  have p8 := fun S => hadd t g S (by omega)
  rw [wpS_seq]
  simp [s1, s2, s3, p1, p2, p3, p4, p5, p6, p7, p8, hz, -x_addS, -wpS_seq]
  refine draw5 f3.pen (by decide) (by decide) fun r4 S4 d1 d2 f4 => ?_
  obtain ⟨y, ey, hy, -⟩ := atI_mem (ds := [Z.D.str (u1 ++ g ++ u2), .str (u1 ++ g ++ u3), .str (u1 ++ u3), .str u1, .str (u1 ++ w ++ u2), .str (u1 ++ w ++ u3), .str (t ++ g)]) d1 (by simpa using d2)
  simp [ey]
  have F := ((f1.trans f2).trans f3).trans f4
  simp only [List.mem_cons, List.not_mem_nil, or_false] at hy
  rcases hy with rfl | rfl | rfl | rfl | rfl | rfl | rfl <;> refine k _ _ ?_ F
  · exact ((q1.app hg).app q2).mono (by omega) (by omega)
  · exact ((q1.app hg).app q3).mono (by omega) (by omega)
  · exact (q1.app q3).mono (by omega) (by omega)
  · exact q1.mono (by omega) (by omega)
  · exact ((q1.app hw).app q2).mono (by omega) (by omega)
  · exact ((q1.app hw).app q3).mono (by omega) (by omega)
  · exact (ht.app hg).mono (by omega) (by omega)
/-! ### told -/
theorem told_word {Ts : List (Addr × Str)} {i t0 : Nat} {p : Addr × Str} {m : ME} {τ : Tau} {v : Z.D} (hi : Ts[i]? = some p) (ht : S[t0]? = some (.tab p.1 p.2)) (h : Told (m τ S) S v) : mWordX Ts i "told" kfD kfxD m τ S = .ok v S := by
  generalize hr : m τ S = r at h
  cases h with
  | ok => exact wordX_ok hi ht hr
  | no i => exact wordX_xf hi ht hr (by simp [kfxD])
def T92 (t : Str) (due : Z.D) (S0 : Sto) (τ : Tau) (S : Sto) : Prop := (∃ a b : Option Z.D, τ = [some (.str t), a, some due, b]) ∧ Fr S0.length S0 S
theorem right92 {t : Str} (ht : Tt 100000 40 t) {Ts : List (Addr × Str)} {tb : List (Str × (List Z.D → Sto → Z.R Z.D))} {P : Addr} {q : Str} (hi : Ts[0]? = some (P, q)) (h0 : S[0]? = some (.tab P q)) : wpR (m_law_right Ts tb [.str t] S) fun d S' => d = .bl true ∧ Fr S.length S S' := by
  obtain ⟨v, hv, ev⟩ := pread92 ht.ln
  obtain ⟨w, hw, lw, gw⟩ := rread92 ht.ln ht.sm
  obtain ⟨rw_, hrw⟩ := repr_all (d := w) gw (by decide) (by decide)
  obtain ⟨o, ho, hok⟩ := readP_o t
  have hlen : ∀ S, dLen [.str t] S = .ok (.int t.length) S := fun S => len_str t (by have := ht.ln; omega) S
  have hlr := lread92 ht.ln S
  rw [ho] at ev hlr
  have hloop : ∀ (rv : Str), (∀ S, dRepr [v] S = .ok (.str rv) S) → ∀ τ S1, T92 t v S τ S1 → wpS (forL [] (.nm 3) (sSeq (sIf (mAnd (mB (mBin dLt (mCall dLen (aCons (mVar 0) aNil)) (mC (.int 501)))) (mB (mBin dNe (mCall dRepr (aCons (mWordX Ts 0 "told" kfD kfxD (mCall m_paper_read (aCons (mVar 0) aNil))) aNil)) (mCall dRepr (aCons (mVar 2) aNil))))) (sRet (mC (.bl false))) sNil)
      (sIf (mB (mBin dNe (mCall dRepr (aCons (mWordX Ts 0 "told" kfD kfxD (mCall m_roll_read (aCons (mVar 0) aNil))) aNil)) (mCall dRepr (aCons (mCall m_law_read_roll (aCons (mVar 0) aNil)) aNil)))) (sRet (mC (.bl false))) sNil)) ((List.range 2).map fun i : Nat => .int (i : Int)) τ S1)
      (T92 t v S) (fun d S' => d = .bl true ∧ Fr S.length S S') := fun rv hrv τ S1 h => by
    refine for_rng 2 (fun _ τ S' => T92 t v S τ S') ?_ (fun τ S' h => h) _ _ h
    rintro i τ S2 hi2 ⟨⟨a, b, rfl⟩, f2⟩
    refine ⟨_, rfl, ?_⟩
    have g2 : S2[0]? = some (.tab P q) := f2.at (lt_of_at h0) h0
    have e1 := told_word (m := mCall m_paper_read (aCons (mVar 0) aNil)) (τ := [some (.str t), a, some v, some (.int (i : Int))]) (v := v) hi g2 (by simpa using hv S2)
    have e2 := told_word (m := mCall m_roll_read (aCons (mVar 0) aNil)) (τ := [some (.str t), a, some v, some (.int (i : Int))]) (v := w) hi g2 (by simpa using hw S2)
    have hl := lw S2
    clear hv hw lw
    by_cases h5 : (t.length : Int) < 501
    · simp [hlen, h5, e1, e2, hrv, hrw]
      refine wpR_imp hl fun d S3 ⟨e, f3⟩ => ?_
      subst e
      simp [hrw]
      exact ⟨⟨_, _, rfl⟩, f2.trans (f3.mono f2.1)⟩
    · simp [hlen, h5, e2, hrv, hrw]
      refine wpR_imp hl fun d S3 ⟨e, f3⟩ => ?_
      subst e
      simp [hrw]
      exact ⟨⟨_, _, rfl⟩, f2.trans (f3.mono f2.1)⟩
  have er := rng1 2 (by decide)
  cases o with
  | none =>
    have ev : v = .tup [.str "text", .int 0] := ev
    obtain ⟨rv, hrv⟩ := repr_all (gq_text (i := 0) (by omega)) (by decide) (by decide)
    rw [← ev] at hrv
    have hloop := hloop rv hrv
    unfold m_law_right
    rw [x_run, wpS_seq]
    refine ⟨rfl, ?_⟩
    simp [-wpS_seq]
    refine wpR_imp hlr fun d S1 ⟨e, f1⟩ => ?_
    subst e
    rw [wpS_seq]
    simp [-wpS_seq, dIsN, Z.isNon, oD]
    rw [wpS_seq]
    simp [er, hz, -wpS_seq]
    refine wpS_imp (hloop _ _ ⟨⟨_, _, by rw [ev]⟩, f1⟩) (fun τ S h => h.2) (fun d S h => h)
  | some p =>
    have ev : v = .tup [.str "told", p.D] := ev
    have gv : Gq [2, 8] (.tup [.str "told", p.D]) = true := Gq_tup (by simp) fun x hd => by
      simp only [List.mem_cons, List.not_mem_nil, or_false] at hd
      rcases hd with rfl | rfl
      · exact Gq_s (by decide +kernel)
      · exact Gq_pa (hok p rfl)
    obtain ⟨rv, hrv⟩ := repr_all gv (by decide) (by decide)
    rw [← ev] at hrv
    have hloop := hloop rv hrv
    have hn : ∀ S, dIsN false p.D .non S = .ok (.bl false) S := fun _ => rfl
    unfold m_law_right
    rw [x_run, wpS_seq]
    refine ⟨rfl, ?_⟩
    simp [-wpS_seq]
    refine wpR_imp hlr fun d S1 ⟨e, f1⟩ => ?_
    subst e
    rw [wpS_seq]
    simp only [oD] at *
    generalize p.D = pd at *
    simp [-wpS_seq, hn]
    rw [wpS_seq]
    simp [er, hz, -wpS_seq]
    refine wpS_imp (hloop _ _ ⟨⟨_, _, by rw [ev]⟩, f1⟩) (fun τ S h => h.2) (fun d S h => h)
end Sp

/-! k92L: the law is kept. -/
namespace Sp
open PySem L2 Z Lk92
variable {l : Nat} {S S' : Sto} {Q : Z.D → Sto → Prop}
theorem ne_loc {ks : List Nat} {ds : List Z.D} {f : Nat} (h : Gq ks (.lst ds) = true) (hk : ks.length ≤ 60) (hf : S[f]? = some (.lst ds)) : dNe (.loc f) (.lst ds) S = .ok (.bl false) S := by
  obtain ⟨p, h1, h2, h3⟩ := self_py h hk
  have e1 : toPy (.lst ds) S = some p := toPy_of h1
  have e2 : toPy (.loc f) S = some p := by
    simp only [toPyD] at h1
    simp [toPy, hf, h1]
  unfold dNe dDat
  rw [e1, e2]
  simp [h2, h3]
/-! ### the texts of papers -/
theorem str_small {n : Int} (h : 0 ≤ n ∧ n ≤ 60) (S : Sto) : dStr [.int n] S = .ok (.str (numT n)) S := by
  rw [x_strI, guardR, if_pos]
  · rfl
  · have := Nat.log2_le_self n.natAbs
    omega
theorem dStr_tok {p : Pa} {d : Int} {w : Str} {ns : List Int} (h : Parts p d w ns) {u : Z.D} (hu : u ∈ rowOf p.D) (S : Sto) : dStr [u] S = .ok (.str (tokD u)) S := by
  rw [h.row] at hu
  simp only [rowOf, List.mem_cons, List.mem_map] at hu
  rcases hu with rfl | rfl | ⟨n, hn, rfl⟩
  · exact str_small h.day S
  · rfl
  · exact str_small (h.nn n hn) S
theorem joinS {a : Str} {ys : List Str} (h : (ys.map (·.length)).sum + ys.length * a.length ≤ 16777216) (S : Sto) : dJoin (.str a) [.lst (ys.map .str)] S = .ok (.str (Str.join a ys)) S := by
  rw [x_join, guardR, if_pos h]
theorem text92 {p : Pa} (h : okP p) (S : Sto) : m_law_text [p.D] S = .ok (.str (textP p)) S := by
  obtain ⟨d, w, ns, hp⟩ := pt_parts h
  refine wp_eq ?_
  have hl := toks_len h
  have hlc : lcL [] (Tgt.nm 1) [1] tYesM (mCall dStr (aCons (mVar 1) aNil)) (rowOf p.D) [some p.D, none] S = .ok ((toks p).map .str) S := by
    have := lc_map (g := Tgt.nm 1) (vs := [1]) (e := mCall dStr (aCons (mVar 1) aNil)) (τ := [some p.D, none]) (S := S) (fun u => Z.D.str (tokD u)) (rowOf p.D) fun u hu => ⟨_, rfl, by
      simp [wipeT, dStr_tok hp hu]⟩
    rw [this]
    simp [toks]
  have hj : dJoin (.str " ") [.lst ((toks p).map .str)] S = .ok (.str (textP p)) S := joinS (a := spc) (by have := toks_sum h; omega) S
  have hit : itemsOf p.D S = some ⟨rowOf p.D, []⟩ := rfl
  have hr6 : (rowOf p.D).length ≤ 16777216 := by
    have : (toks p).length = (rowOf p.D).length := by simp [toks]
    omega
  have hty : ∀ S, isTy "str" (.str (" " : Str)) S = true := fun _ => rfl
  have hs6 : ((toks p).map Z.D.str).length ≤ 16777216 := by simp; omega
  generalize rowOf p.D = ds at *
  generalize (toks p).map Z.D.str = ys at *
  generalize p.D = pd at *
  unfold m_law_text
  simp [hit, hlc, hz, hr6, hs6, hj, hty]
theorem tt_text {p : Pa} (h : okP p) : Tt 54 0 (textP p) := ⟨textP_len h, by
  unfold semis
  exact Nat.le_of_eq (List.count_eq_zero.mpr fun hc => (textP_mem h hc).2.2 rfl), fun c hc => by
  have := (textP_mem h hc).2.1
  omega⟩
/-! ### rows of texts -/
theorem joinL_count (c : Nat) (s : List Nat) : ∀ ps : List (List Nat), (TL.joinL s ps).count c ≤ (ps.map fun p => p.count c).sum + ps.length * s.count c
  | [] => by simp [TL.joinL]
  | [a] => by simp [TL.joinL]
  | a :: b :: r => by
    have ih := joinL_count c s (b :: r)
    simp only [TL.joinL, List.count_append, List.map_cons, List.sum_cons, List.length_cons, Nat.succ_mul] at ih ⊢
    omega
/-- a row of texts that joins to a text few signs ; -/
structure Rt (ts : List Str) : Prop where
  ln : ts.length ≤ 36
  tt : ∀ t ∈ ts, Tt 112 1 t
  sm : (ts.map semis).sum ≤ 1
theorem Rt.join {ts : List Str} (h : Rt ts) : Tt 5000 37 (Str.join semi ts) := by
  have hs : semi.length = 2 := by decide +kernel
  have hc : (TL.tl semi).count 59 = 1 := by decide +kernel
  refine ⟨?_, ?_, fun c hc => ?_⟩
  · have h1 := join_len semi ts
    have h2 := join_le (s := semi) (k := 112) (m := 36) (ps := ts) (fun t ht => (h.tt t ht).ln) h.ln
    omega
  · have h1 := joinL_count 59 (TL.tl semi) (ts.map TL.tl)
    unfold semis
    rw [TL.tl_join]
    have e : ((ts.map TL.tl).map fun p => p.count 59) = ts.map semis := by rw [List.map_map]; rfl
    rw [e, hc, List.length_map] at h1
    have := h.sm
    have := h.ln
    omega
  · rcases join_mem hc with hc | ⟨t, ht, hc⟩
    · have : ∀ c ∈ TL.tl semi, c < 16 ^ 8 := by decide +kernel
      exact this c hc
    · exact (h.tt t ht).cp c hc
theorem Rt.sumOk {ts : List Str} (h : Rt ts) : (ts.map (·.length)).sum + ts.length * semi.length ≤ 16777216 := by
  have hs : semi.length = 2 := by decide +kernel
  have h2 := join_le (s := semi) (k := 112) (m := 36) (ps := ts) (fun t ht => (h.tt t ht).ln) h.ln
  omega
theorem semis0 {ts : List Str} (h : ∀ t ∈ ts, Tt 54 0 t) : (ts.map semis).sum = 0 := by
  induction ts with
  | nil => rfl
  | cons t ts ih =>
    simp only [List.map_cons, List.sum_cons]
    have := (h t (by simp)).sm
    have := ih fun t ht => h t (by simp [ht])
    omega
theorem rt0 {ts : List Str} (h : ∀ t ∈ ts, Tt 54 0 t) (hl : ts.length ≤ 36) : Rt ts := ⟨hl, fun t ht => (h t ht).mono (by omega) (by omega), by rw [semis0 h]; omega⟩
theorem rt1 {as bs : List Str} {u : Str} (h : ∀ t ∈ as, Tt 54 0 t) (h2 : ∀ t ∈ bs, Tt 54 0 t) (hu : Tt 112 1 u) (hl : as.length + bs.length ≤ 35) : Rt (as ++ u :: bs) := ⟨by simp; omega, fun t ht => by
  rcases List.mem_append.mp ht with ht | ht
  · exact (h t ht).mono (by omega) (by omega)
  · rcases List.mem_cons.mp ht with rfl | ht
    · exact hu
    · exact (h2 t ht).mono (by omega) (by omega), by
  rw [List.map_append, List.sum_append, List.map_cons, List.sum_cons, semis0 h, semis0 h2]
  have := hu.sm
  omega⟩
/-! ### odd things -/
def oddL : List Z.D := [.non, .bl true, .int 7, .str "0", .str "", .lst [], .dct [] [], .tup [], .tup [.int 0], .int (-1), .tup [.int 0, .int 0], .lst [.int 0], .bl false, .tup [.tup []], .tup [.int 0, .str "hold", .int 0], .int 61, .int 1000000000000000000000000000000]
theorem odd5m (hp : Pen l S) (k : ∀ e S', e ∈ oddL → PF l S S' → Q e S') : wpR (V5.m_law_odd [.loc l] S) Q := by
  unfold V5.m_law_odd
  rw [x_run, wpS_seq]
  refine ⟨rfl, ?_⟩
  simp [hz, -wpS_seq]
  refine draw5 hp (by decide) (by decide) fun r1 S1 a1 a2 f1 => ?_
  obtain ⟨o, eo, ho, -⟩ := atI_mem (ds := oddL) a1 (by simpa [oddL] using a2)
  have eo' : atI [.non, .bl true, .int 7, .str "0", .str "", .lst [], .dct [] [], .tup [], .tup [.int 0], .int (-1), .tup [.int 0, .int 0], .lst [.int 0], .bl false, .tup [.tup []], .tup [.int 0, .str "hold", .int 0], .int 61, .int 1000000000000000000000000000000] r1 = some o := eo
  simp [eo']
  exact k o S1 ho f1
/-- what both readings tell of a thing -/
structure Ow (o v w : Z.D) (b : Bool) : Prop where
  pr : ∀ S, Told (m_paper_read [o] S) S v
  rr : ∀ S, Told (m_roll_read [o] S) S w
  isa : ∀ S, dIsa [o, .ob (.ty "str")] S = .ok (.bl b) S
  no : b = false → v = .tup [.str "text", .int (-1)] ∧ w = .tup [.str "text", .int (-1)]
theorem odd_str {t : Str} (ht : Tt 100000 40 t) : ∃ v w b, Ow (.str t) v w b := by
  obtain ⟨v, hv, -⟩ := pread92 ht.ln
  obtain ⟨w, hw, -⟩ := rread92 ht.ln ht.sm
  exact ⟨v, w, true, hv, hw, fun S => isa_txt t S, fun h => by cases h⟩
theorem odd_no {o : Z.D} {p : PyData} (h : toPyD o = some p) (hs : isStrB o = false) : ∃ v w b, Ow o v w b := by
  have hi : ∀ S, dIsa [o, .ob (.ty "str")] S = .ok (.bl false) S := fun S => by rw [isa_str h, hs]
  refine ⟨.tup [.str "text", .int (-1)], .tup [.str "text", .int (-1)], false, fun S => ?_, fun S => ?_, hi, fun _ => ⟨rfl, rfl⟩⟩
  · have e : m_paper_read [o] S = .ex "NoText" [("at", .int (-1))] S := by
      unfold m_paper_read
      refine run_exT (τ' := [some o, none]) rfl ?_
      exact seq_exS ((if_exT (S' := S) (by simp [hi])).trans (raiseF1 (d := .int (-1)) (by simp)))
    rw [e]
    exact .no (-1) S
  · have e : m_roll_read [o] S = .ex "NoText" [("at", .int (-1))] S := by
      unfold m_roll_read
      refine run_exT (τ' := [some o, none, none]) rfl ?_
      exact seq_exS ((if_exT (S' := S) (by simp [hi])).trans (raiseF1 (d := .int (-1)) (by simp)))
    rw [e]
    exact .no (-1) S
theorem odd92 {o : Z.D} (h : o ∈ oddL) : ∃ v w b, Ow o v w b := by
  have g1 : Tt 100000 40 "0" := ⟨by decide +kernel, by decide +kernel, by decide +kernel⟩
  have g2 : Tt 100000 40 "" := ⟨by decide +kernel, by decide +kernel, by decide +kernel⟩
  simp only [oddL, List.mem_cons, List.not_mem_nil, or_false] at h
  rcases h with rfl | rfl | rfl | rfl | rfl | rfl | rfl | rfl | rfl | rfl | rfl | rfl | rfl | rfl | rfl | rfl | rfl
  all_goals first | exact odd_str g1 | exact odd_str g2 | exact odd_no rfl rfl
end Sp
namespace Sp
open PySem L2 Z Lk92
variable {l : Nat} {S S' : Sto} {Q : Z.D → Sto → Prop}
structure Tb (P0 : Addr) (q0 : Str) (P1 : Addr) (q1 : Str) (S : Sto) : Prop where
  t0 : S[0]? = some (.tab P0 q0)
  t1 : S[1]? = some (.tab P1 q1)
variable {P0 P1 : Addr} {q0 q1 : Str}
theorem Tb.fr (h : Tb P0 q0 P1 q1 S) {n : Nat} (f : Fr n S S') (hn : 2 ≤ n) : Tb P0 q0 P1 q1 S' := ⟨f.at (by omega) h.t0, f.at (by omega) h.t1⟩
theorem Tb.ln (h : Tb P0 q0 P1 q1 S) : 2 ≤ S.length := lt_of_at h.t1
theorem Tb.pf (h : Tb P0 q0 P1 q1 S) (f : PF l S S') (hl : 2 ≤ l) : Tb P0 q0 P1 q1 S' := ⟨f.at h.t0 (by omega), f.at h.t1 (by omega)⟩
def IsT (d : Z.D) : Prop := ∃ t, d = .str t ∧ Tt 100000 40 t
def A92 (ns : Z.D) (P0 : Addr) (q0 : Str) (P1 : Addr) (q1 : Str) (τ : Tau) (S : Sto) : Prop := (∃ a1 : Option Z.D, τ = [some ns, a1, none, none, none, none, none, none, none, none, none, none, none, none, none]) ∧ Tb P0 q0 P1 q1 S
def C92 (ns : Z.D) (P0 : Addr) (q0 : Str) (P1 : Addr) (q1 : Str) (τ : Tau) (S : Sto) : Prop := (∃ a1 a2 a3 a4 a5 a6 a7 a8 a9 a10 a11 a12 a13 a14 : Option Z.D, τ = [some ns, a1, a2, a3, a4, a5, a6, a7, a8, a9, a10, a11, a12, a13, a14]) ∧ Tb P0 q0 P1 q1 S
theorem fixed_ok : ∀ d ∈ ([.str "", .str " ", .str "empty", .str "empty ", .str "0 hold 0; ", .str "0 hold 0;0 hold 1", .str "0 hold 0; empty", .str "; "] : List Z.D), IsT d := by
  have h : ∀ t ∈ (["", " ", "empty", "empty ", "0 hold 0; ", "0 hold 0;0 hold 1", "0 hold 0; empty", "; "] : List Str), t.length ≤ 1000 ∧ semis t ≤ 40 ∧ ∀ c ∈ TL.tl t, c < 16 ^ 8 := by decide +kernel
  intro d hd
  have : d ∈ (["", " ", "empty", "empty ", "0 hold 0; ", "0 hold 0;0 hold 1", "0 hold 0; empty", "; "] : List Str).map Z.D.str := hd
  obtain ⟨t, ht, rfl⟩ := List.mem_map.mp this
  exact ⟨t, rfl, ⟨Nat.le_trans (h t ht).1 (by omega), (h t ht).2.1, (h t ht).2.2⟩⟩
def rwS (r : List Str) : Z.D := .lst (r.map .str)
theorem join0 {ts : List Str} (h : ∀ t ∈ ts, Tt 54 0 t) (hl : ts.length ≤ 5) : Tt 1000 5 (Str.join semi ts) := by
  have hs : semi.length = 2 := by decide +kernel
  have hc : (TL.tl semi).count 59 = 1 := by decide +kernel
  refine ⟨?_, ?_, (rt0 h (by omega)).join.cp⟩
  · have h1 := join_len semi ts
    have h2 := join_le (s := semi) (k := 54) (m := 5) (ps := ts) (fun t ht => (h t ht).ln) hl
    omega
  · have h1 := joinL_count 59 (TL.tl semi) (ts.map TL.tl)
    unfold semis
    rw [TL.tl_join]
    have e : ((ts.map TL.tl).map fun p => p.count 59) = ts.map semis := by rw [List.map_map]; rfl
    rw [e, hc, List.length_map, semis0 h] at h1
    omega
theorem it_rng (n : Nat) (h : n ≤ 60) (S : Sto) : ∃ its : List Z.D, range1 [.int (n : Int)] S = some ⟨its, []⟩ ∧ its.length = n := ⟨_, rng1 n (by omega) S, by simp⟩
theorem lc_texts {ps : List Pa} (h : ∀ p ∈ ps, okP p) (a0 a1 a2 a3 a4 a5 a6 a7 a8 a9 a10 a11 a12 a13 a14 : Option Z.D) (S : Sto) : lcL [] (Tgt.nm 12) [12] tYesM (mCall m_law_text (aCons (mVar 12) aNil)) (ps.map Pa.D) [a0, a1, a2, a3, a4, a5, a6, a7, a8, a9, a10, a11, a12, a13, a14] S = .ok ((ps.map textP).map .str) S := by
  have := lc_src (g := Tgt.nm 12) (vs := [12]) (tm := tYesM) (e := mCall m_law_text (aCons (mVar 12) aNil)) (τ := [a0, a1, a2, a3, a4, a5, a6, a7, a8, a9, a10, a11, a12, a13, a14]) (ks := []) (S := S) (f := Pa.D) (keep_nil S) (fun _ => true) (fun p => .str (textP p)) ps fun p hp => ⟨_, rfl, rfl, fun _ => by
    simp [wipeT, text92 (h p hp)]⟩
  have e : ps.filter (fun _ => true) = ps := by simp
  rw [e] at this
  rw [this]
  simp
theorem cutT (ts : List Str) (h : ∀ t ∈ ts, Tt 54 0 t) (a b : Option Int) : ∃ us : List Str, cutD (ts.map Z.D.str) a b = us.map .str ∧ (∀ t ∈ us, Tt 54 0 t) ∧ us.length = (cutD (ts.map Z.D.str) a b).length := by
  refine ⟨(ts.drop (HT.sIx ts.length 0 a)).take (HT.sIx ts.length ts.length b - HT.sIx ts.length 0 a), ?_, fun t ht => h t (List.mem_of_mem_drop (List.mem_of_mem_take ht)), ?_⟩
  · unfold cutD
    rw [List.length_map, List.map_take, List.map_drop]
  · unfold cutD
    rw [List.length_map, ← List.map_drop, ← List.map_take, List.length_map]
theorem cut_k (ds : List Z.D) {a : Int} (h : 0 ≤ a) (k : Nat) : (cutD ds (some a) (some (a + k))).length ≤ k := by
  obtain ⟨m, rfl⟩ : ∃ m : Nat, a = m := ⟨a.toNat, by omega⟩
  have e : ((m : Int) + (k : Int)) = ((m + k : Nat) : Int) := by omega
  unfold cutD
  rw [e, HT.sIx_nat, HT.sIx_nat, List.length_take, List.length_drop]
  omega
theorem cut_at (ds : List Z.D) {a : Int} (h : 0 ≤ a) : (cutD ds (some a) none).length + (cutD ds none (some a)).length ≤ ds.length := by
  rw [cut_take h, cut_drop h, List.length_take, List.length_drop]
  omega
theorem law_wp (P0 : Addr) (q0 : Str) (P1 : Addr) (q1 : Str) (ns : List Int) (hn : ns.length ≤ 63) : wpR (m_law [(P0, q0), (P1, q1)] tblV [.scr (ns.map Z.D.int)] [.tab P0 q0, .tab P1 q1]) fun d _ => d = .bl true := by
  have hcut := cut_len (ns.map Z.D.int) (some 1) (some 3)
  rw [List.length_map] at hcut
  unfold m_law
  rw [x_run, wpS_seq, x_for, wpS_lift]
  refine ⟨rfl, ?_⟩
  simp [hz, -wpS_seq]
  refine for_wp (fun es τ S => (∀ d ∈ es, IsT d) ∧ A92 (.scr (ns.map Z.D.int)) P0 q0 P1 q1 τ S) ?_ ?_ _ _ _ ⟨fixed_ok, ⟨_, rfl⟩, ⟨rfl, rfl⟩⟩
  · rintro d es τ S1 ⟨hd, ⟨a1, rfl⟩, hT⟩
    obtain ⟨t, rfl, ht⟩ := hd d (by simp)
    have hd2 : ∀ d ∈ es, IsT d := fun d h => hd d (by simp [h])
    refine ⟨_, rfl, ?_⟩
    generalize Z.D.scr (ns.map Z.D.int) = nsd
    simp
    refine wpR_imp (right92 ht rfl hT.t0) fun d S2 ⟨e, f⟩ => ?_
    subst e
    simp
    exact ⟨hd2, ⟨_, rfl⟩, hT.fr f hT.ln⟩
  rintro τ S1 ⟨-, ⟨a1, rfl⟩, hT⟩
  rw [wpS_seq]
  simp [hz, -wpS_seq]
  refine cell5 (by decide) fun c => ⟨by omega, ?_⟩
  refine for_wp (fun es τ S => (∀ d ∈ es, ∃ c : Int, d = .int c) ∧ C92 (.scr (ns.map Z.D.int)) P0 q0 P1 q1 τ S) ?_ (fun _ _ _ => by simp) _ _ _ ⟨cells_int, ⟨_, _, _, _, _, _, _, _, _, _, _, _, _, _, rfl⟩, hT⟩
  rintro d es τ S1 ⟨hd, ⟨a1, a2, a3, a4, a5, a6, a7, a8, a9, a10, a11, a12, a13, a14, rfl⟩, hT⟩
  obtain ⟨c, rfl⟩ := hd d (by simp)
  have hd2 : ∀ d ∈ es, ∃ c : Int, d = .int c := fun d h => hd d (by simp [h])
  have hl2 := hT.ln
  refine ⟨_, rfl, ?_⟩
  generalize Z.D.scr (ns.map Z.D.int) = nsd
  rw [wpS_seq]
  simp [-wpS_seq]
  refine pen5 fun S2 f2 _ => ?_
  have T2 : Tb P0 q0 P1 q1 S2 := ⟨f2.at (app_at hT.t0) (by omega), f2.at (app_at hT.t1) (by omega)⟩
  rw [wpS_seq]
  simp [hz, -wpS_seq]
  refine draw5 f2.pen (by decide) (by decide) fun r S3 r0 r1 f3 => ?_
  obtain ⟨n, en, hn1, hn2⟩ : ∃ n : Nat, 25 + r = (n : Int) ∧ 25 ≤ n ∧ n ≤ 30 := ⟨(25 + r).toNat, by omega, by omega, by omega⟩
  obtain ⟨its, hit, hil⟩ := it_rng n (by omega) S3
  have hil6 : its.length ≤ 16777216 := by omega
  simp [en, hit, hil6, -wpS_seq]
  refine wpR_imp (lc_each (l := S1.length) (fun y => ∃ p, okP p ∧ y = Pa.D p) _ f3.pen fun d hd S4 f4 => ?_) fun ys S4 ⟨hyl, hys, f4⟩ => ?_
  · refine ⟨_, rfl, ?_⟩
    simp [wipeT]
    exact any5 f4.pen fun p S5 hp f5 => ⟨⟨p, hp, rfl⟩, f4.trans f5⟩
  obtain ⟨ps, rfl, hps⟩ := pas_of hys
  have hpl : ps.length = n := by rw [← hil]; simpa using hyl
  clear hit
  have es1 := fun S => sortRowsP (d := .lst (ps.map Pa.D)) (ps := ps) (S := S) rfl (by omega)
  have hql := sortP_len ps
  have hq1 : 1 ≤ (sortP ps).length := by
    cases ps with
    | nil => simp at hpl; omega
    | cons p r =>
      have : p ∈ sortP (p :: r) := mem_sortP.mpr (by simp)
      exact List.length_pos_of_mem this
  have hqo : ∀ p ∈ sortP ps, okP p := fun p hp => hps p (mem_sortP.mp hp)
  generalize sortP ps = qs at *
  have T4 : Tb P0 q0 P1 q1 S4 := (T2.pf f3 hl2).pf f4 hl2
  have hlt := fun a0 a1 a2 a3 a4 a5 a6 a7 a8 a9 a10 a11 a12 a13 a14 S => lc_texts hqo a0 a1 a2 a3 a4 a5 a6 a7 a8 a9 a10 a11 a12 a13 a14 S
  have hts : ∀ t ∈ qs.map textP, Tt 54 0 t := fun t ht => by
    obtain ⟨p, hp, rfl⟩ := List.mem_map.mp ht
    exact tt_text (hqo p hp)
  have htl : (qs.map textP).length = qs.length := by simp
  have hpd6 : (qs.map Pa.D).length ≤ 16777216 := by simp; omega
  simp [es1, -wpS_seq]
  rw [wpS_seq]
  generalize qs.map textP = ts at *
  generalize qs.map Pa.D = pd at *
  have htd6 : (ts.map Z.D.str).length ≤ 16777216 := by simp; omega
  have hdl : ∀ S, dLen [.lst (ts.map Z.D.str)] S = .ok (.int ts.length) S := fun S => by simp [hz, htd6]
  simp [hlt, hpd6, hz, -wpS_seq]
  have cutT := fun a b => cutT ts hts a b
  have cutk := fun (a : Int) h k => cut_k (ts.map Z.D.str) (a := a) h k
  have cuta := fun (a : Int) h => cut_at (ts.map Z.D.str) (a := a) h
  have hat : ∀ a : Int, 0 ≤ a → a < ts.length → ∃ t, Tt 54 0 t ∧ atI (ts.map Z.D.str) a = some (.str t) := fun a h0 h1 => by
    obtain ⟨y, e, hy, -⟩ := atI_mem (ds := ts.map Z.D.str) (i := a) h0 (by simpa using h1)
    obtain ⟨t, ht, rfl⟩ := List.mem_map.mp hy
    exact ⟨t, hts t ht, e⟩
  rw [List.length_map] at cuta
  generalize htd : ts.map Z.D.str = td at *
  rw [wpS_seq]
  simp [hdl, -wpS_seq]
  refine draw5 f4.pen (by omega) (by omega) fun ra S5 a0 a1 f5 => ?_
  refine draw5 f5.pen (by omega) (by omega) fun rb S6 b0 b1 f6 => ?_
  have T6 := (T4.pf f5 hl2).pf f6 hl2
  obtain ⟨k1, e1, h1, l1⟩ := cutT none (some 24)
  obtain ⟨k2, e2, h2, l2⟩ := cutT none (some 25)
  obtain ⟨k3, e3, h3, l3⟩ := cutT (some ra) none
  obtain ⟨k4, e4, h4, l4⟩ := cutT none (some ra)
  obtain ⟨k5, e5, h5, l5⟩ := cutT (some ra) (some (ra + 1))
  obtain ⟨k6, e6, h6, l6⟩ := cutT (some ra) (some (ra + 5))
  obtain ⟨k7, e7, h7, l7⟩ := cutT (some (ra + 1)) (some (ra + 4))
  obtain ⟨k8, e8, h8, l8⟩ := cutT (some rb) (some (rb + 1))
  obtain ⟨k9, e9, h9, l9⟩ := cutT (some ra) (some (ra + 2))
  obtain ⟨k0, e0, h0, l0⟩ := cutT none (some 5)
  have htl2 : td.length = ts.length := by rw [← htd]; simp
  have m1 : k1.length ≤ 30 := by have := cut_len td none (some 24); omega
  have m2 : k2.length ≤ 30 := by have := cut_len td none (some 25); omega
  have m34 : k3.length + k4.length ≤ 30 := by have := cuta ra a0; omega
  have m5 : k5.length ≤ 1 := by rw [l5]; exact cutk ra a0 1
  have m6 : k6.length ≤ 5 := by rw [l6]; exact cutk ra a0 5
  have m7 : k7.length ≤ 3 := by
    rw [l7]
    have := cutk (ra + 1) (by omega) 3
    rw [show ra + 1 + ((3 : Nat) : Int) = ra + 4 by omega] at this
    exact this
  have m8 : k8.length ≤ 1 := by rw [l8]; exact cutk rb b0 1
  have m9 : k9.length ≤ 2 := by rw [l9]; exact cutk ra a0 2
  have m0 : k0.length ≤ 5 := by rw [l0, cut_take (by decide), List.length_take]; exact Nat.min_le_left _ _
  clear l1 l2 l3 l4 l5 l6 l7 l8 l9 l0 cutT cutk cuta
  simp [setAll, bindT, hz, -wpS_seq]
  rw [wpS_seq]
  have z1 : k3.length + k4.length ≤ 16777216 := by omega
  have z2 : k4.length + k5.length ≤ 16777216 := by omega
  have z3 : k4.length + k5.length + k6.length ≤ 16777216 := by omega
  simp [e1, e2, e3, e4, e5, e6, hz, z1, z2, z3, -wpS_seq]
  have er : [Z.D.lst (k1.map .str), .lst (k2.map .str), .lst (k3.map .str ++ k4.map .str), .lst (k4.map .str ++ (k5.map .str ++ k6.map .str))] = [k1, k2, k3 ++ k4, k4 ++ (k5 ++ k6)].map rwS := by simp [rwS]
  have hrow : ∀ r ∈ [k1, k2, k3 ++ k4, k4 ++ (k5 ++ k6)], Rt r := fun r hr => by
    simp only [List.mem_cons, List.not_mem_nil, or_false] at hr
    rcases hr with rfl | rfl | rfl | rfl
    · exact rt0 h1 (by omega)
    · exact rt0 h2 (by omega)
    · exact rt0 (fun t ht => (List.mem_append.mp ht).elim (h3 t) (h4 t)) (by simp; omega)
    · exact rt0 (fun t ht => (List.mem_append.mp ht).elim (h4 t) fun ht => (List.mem_append.mp ht).elim (h5 t) (h6 t)) (by simp; omega)
  rw [er]
  have hrl : [k1, k2, k3 ++ k4, k4 ++ (k5 ++ k6)].length = 4 := rfl
  generalize [k1, k2, k3 ++ k4, k4 ++ (k5 ++ k6)] = rows at *
  have F7 : PF S1.length S6 (S6 ++ [C.lst (rows.map rwS)]) := PF.app f6.pen
  have g7 : (S6 ++ [C.lst (rows.map rwS)])[S6.length]? = some (.lst (rows.map rwS)) := by simp
  have hl6 : S1.length < S6.length := f6.pen.lt
  generalize S6 ++ [C.lst (rows.map rwS)] = S7 at *
  rw [wpS_seq]
  obtain ⟨t0, ht0, et0⟩ := hat ra a0 a1
  have z4 : k4.length + 1 ≤ 16777216 := by omega
  have z5 : k4.length + 1 + k7.length ≤ 16777216 := by omega
  have z6 : k8.length + k9.length ≤ 16777216 := by omega
  simp [isTy_list g7, e4, e7, et0, hz, z4, z5, -wpS_seq]
  refine bent92 F7.pen ht0 (by omega) fun u S8 hu f8 => ?_
  have g8 := f8.at g7 (by omega)
  have ea := app_list (y := rwS (k4 ++ u :: k7)) g8 (by simp; omega)
  have g9 := at_set (c1 := .lst (rows.map rwS ++ [rwS (k4 ++ u :: k7)])) g8
  have F9 := (F7.trans f8).set (c := .lst (rows.map rwS ++ [rwS (k4 ++ u :: k7)])) (Nat.le_refl _) (by omega)
  rw [show rows.map rwS ++ [rwS (k4 ++ u :: k7)] = (rows ++ [k4 ++ u :: k7]).map rwS by simp] at ea g9 F9
  have hrow9 : ∀ r ∈ rows ++ [k4 ++ u :: k7], Rt r := fun r hr => by
    rcases List.mem_append.mp hr with hr | hr
    · exact hrow r hr
    · simp only [List.mem_singleton] at hr; subst hr; exact rt1 h4 h7 hu (by omega)
  have hrl9 : (rows ++ [k4 ++ u :: k7]).length = 5 := by simp [hrl]
  have ex : Z.D.lst (k4.map .str ++ .str u :: k7.map .str) = rwS (k4 ++ u :: k7) := by simp [rwS]
  generalize rows ++ [k4 ++ u :: k7] = rows9 at *
  generalize hS9 : S8.set S6.length (C.lst (rows9.map rwS)) = S9 at *
  simp [ex, ea, -wpS_seq]
  rw [wpS_seq]
  have ea2 := app_list (y := rwS (k8 ++ k9)) g9 (by simp; omega)
  have g10 := at_set (c1 := .lst (rows9.map rwS ++ [rwS (k8 ++ k9)])) g9
  have F10 := F9.set (c := .lst (rows9.map rwS ++ [rwS (k8 ++ k9)])) (Nat.le_refl _) (by omega)
  rw [show rows9.map rwS ++ [rwS (k8 ++ k9)] = (rows9 ++ [k8 ++ k9]).map rwS by simp] at ea2 g10 F10
  have hrow10 : ∀ r ∈ rows9 ++ [k8 ++ k9], Rt r := fun r hr => by
    rcases List.mem_append.mp hr with hr | hr
    · exact hrow9 r hr
    · simp only [List.mem_singleton] at hr; subst hr; exact rt0 (fun t ht => (List.mem_append.mp ht).elim (h8 t) (h9 t)) (by simp; omega)
  have hrl10 : (rows9 ++ [k8 ++ k9]).length = 6 := by simp [hrl9]
  have ex2 : Z.D.lst (k8.map .str ++ k9.map .str) = rwS (k8 ++ k9) := by simp [rwS]
  generalize rows9 ++ [k8 ++ k9] = rowsA at *
  generalize hSA : S9.set S6.length (C.lst (rowsA.map rwS)) = SA at *
  simp [isTy_list g9, hz, e8, e9, z6, ex2, ea2, -wpS_seq]
  rw [wpS_seq]
  have TA := T6.pf F10 hl2
  have hia : itemsOf (.loc S6.length) SA = some ⟨rowsA.map rwS, [(S6.length, .lst (rowsA.map rwS))]⟩ := by simp [itemsOf, g10]
  simp [hia, -wpS_seq]
  have hlj : ∀ (a0 a1 a2 a3 a4 a5 a6 a7 a8 a9 a10 a11 a12 a13 a14 : Option Z.D), lcL [(S6.length, .lst (rowsA.map rwS))] (Tgt.nm 13) [13] tYesM (mMeth "str" dJoin (mC (.str "; ")) (aCons (mVar 13) aNil)) (rowsA.map rwS) [a0, a1, a2, a3, a4, a5, a6, a7, a8, a9, a10, a11, a12, a13, a14] SA = .ok ((rowsA.map (Str.join semi)).map .str) SA := fun a0 a1 a2 a3 a4 a5 a6 a7 a8 a9 a10 a11 a12 a13 a14 => by
    have hty : ∀ S, isTy "str" (.str ("; " : Str)) S = true := fun _ => rfl
    have := lc_src (g := Tgt.nm 13) (vs := [13]) (tm := tYesM) (e := mMeth "str" dJoin (mC (.str "; ")) (aCons (mVar 13) aNil)) (τ := [a0, a1, a2, a3, a4, a5, a6, a7, a8, a9, a10, a11, a12, a13, a14]) (S := SA) (f := rwS) (keepOk1.mpr g10) (fun _ => true) (fun r => .str (Str.join semi r)) rowsA fun r hr => ⟨_, rfl, rfl, fun _ => by
      have hj : dJoin (.str "; ") [rwS r] SA = .ok (.str (Str.join semi r)) SA := joinS (a := semi) (hrow10 r hr).sumOk SA
      generalize rwS r = rd at *
      simp [wipeT, hj, hty]⟩
    have e : rowsA.filter (fun _ => true) = rowsA := by simp
    rw [e] at this
    rw [this]
    simp
  have hJ : ∀ d ∈ (rowsA.map (Str.join semi)).map Z.D.str, IsT d := fun d hd => by
    obtain ⟨t, ht, rfl⟩ := List.mem_map.mp hd
    obtain ⟨r, hr, rfl⟩ := List.mem_map.mp ht
    exact ⟨_, rfl, (hrow10 r hr).join.mono (by omega) (by omega)⟩
  have hJl : ((rowsA.map (Str.join semi)).map Z.D.str).length = 6 := by simp [hrl10]
  have hrA6 : rowsA.length ≤ 16777216 := by omega
  generalize (rowsA.map (Str.join semi)).map Z.D.str = J at *
  generalize rowsA.map rwS = rA at *
  obtain ⟨its8, hit8, hil8⟩ := it_rng 8 (by omega) SA
  have hi8 : range1 [.int 8] SA = some ⟨its8, []⟩ := hit8
  have hil86 : its8.length ≤ 16777216 := by omega
  simp [hlj, hi8, hz, hrA6, hil86, -wpS_seq]
  refine wpR_imp (lc_each (l := S1.length) IsT _ F10.pen fun d hd SB fB => ?_) fun ys SB ⟨hyl8, hys8, fB⟩ => ?_
  · refine ⟨_, rfl, ?_⟩
    simp [wipeT, et0]
    exact bent92 fB.pen ht0 (by omega) fun u SC hu fC => ⟨⟨u, rfl, hu.mono (by omega) (by omega)⟩, fB.trans fC⟩
  have hXl : J.length + ys.length ≤ 16777216 := by omega
  have hX : ∀ d ∈ J ++ ys, IsT d := fun d hd => (List.mem_append.mp hd).elim (hJ d) (hys8 d)
  have hXn : (J ++ ys).length = 14 := by simp; omega
  refine ⟨hXl, ?_⟩
  generalize J ++ ys = xs at *
  have FB := F10.trans fB
  rw [wpS_seq]
  obtain ⟨its6, hit6, hil6⟩ := it_rng 6 (by omega) SB
  have hi6 : range1 [.int 6] SB = some ⟨its6, []⟩ := hit6
  have hil66 : its6.length ≤ 16777216 := by omega
  have hj5 : ∀ S, dJoin (.str "; ") [.lst (k0.map .str)] S = .ok (.str (Str.join semi k0)) S := fun S => joinS (a := semi) (rt0 h0 (by omega)).sumOk S
  have hty : ∀ S, isTy "str" (.str ("; " : Str)) S = true := fun _ => rfl
  simp [hi6, hz, hil66, -wpS_seq]
  refine wpR_imp (lc_each (l := S1.length) IsT _ FB.pen fun d hd SC fC => ?_) fun ys6 SC ⟨hyl6, hys6, fC⟩ => ?_
  · refine ⟨_, rfl, ?_⟩
    have J0 := join0 h0 m0
    generalize k0.map Z.D.str = kd0 at *
    simp [wipeT, e0, hj5, hty]
    exact bent92 fC.pen J0 (by omega) fun u SD hu fD => ⟨⟨u, rfl, hu.mono (by omega) (by omega)⟩, fC.trans fD⟩
  have FC := FB.trans fC
  have hXl2 : xs.length + ys6.length ≤ 16777216 := by omega
  simp [hXl2, -wpS_seq]
  refine for_wp (fun es τ S => (∀ d ∈ es, IsT d) ∧ (∃ b1 b4 b5 b6 b7 b8 b9 b10 b11 b12 b13 b14 : Option Z.D, τ = [some nsd, b1, some (.int c), some (.loc S1.length), b4, b5, b6, b7, b8, b9, b10, b11, b12, b13, b14]) ∧ PF S1.length S6 S) ?_ ?_ _ _ _ ⟨fun d hd => (List.mem_append.mp hd).elim (hX d) (hys6 d), ⟨_, _, _, _, _, _, _, _, _, _, _, _, rfl⟩, FC⟩
  · rintro d es2 τ SD ⟨hdx, ⟨b1, b4, b5, b6, b7, b8, b9, b10, b11, b12, b13, b14, rfl⟩, FD⟩
    obtain ⟨t, rfl, ht⟩ := hdx d (by simp)
    have hd3 : ∀ d ∈ es2, IsT d := fun d h => hdx d (by simp [h])
    refine ⟨_, rfl, ?_⟩
    simp
    refine wpR_imp (right92 ht rfl (T6.pf FD hl2).t0) fun d SE ⟨e, f⟩ => ?_
    subst e
    simp
    exact ⟨hd3, FD.trans (PF.fr FD.pen f)⟩
  rintro τ SD ⟨-, ⟨b1, b4, b5, b6, b7, b8, b9, b10, b11, b12, b13, b14, rfl⟩, FD⟩
  rw [wpS_seq]
  simp [-wpS_seq]
  refine odd5m FD.pen fun o SE ho fE => ?_
  have TE := (T6.pf FD hl2).pf fE hl2
  obtain ⟨v, w, b, hw⟩ := odd92 ho
  rw [wpS_seq]
  have w1 := told_word (S := SE) (Ts := [(P0, q0), (P1, q1)]) (i := 1) (t0 := 1) (m := mCall m_paper_read (aCons (mVar 8) aNil)) (τ := [some nsd, b1, some (.int c), some (.loc S1.length), b4, b5, b6, b7, some o, b9, b10, b11, b12, b13, b14]) (v := v) rfl TE.t1 (by simpa using hw.pr SE)
  simp [w1, hz, -wpS_seq]
  have gF : (SE ++ [C.lst [v]])[SE.length]? = some (.lst [v]) := by simp
  have TF : Tb P0 q0 P1 q1 (SE ++ [C.lst [v]]) := ⟨app_at TE.t0, app_at TE.t1⟩
  have hlE := TE.ln
  generalize SE ++ [C.lst [v]] = SF at *
  have w2 := told_word (S := SF) (Ts := [(P0, q0), (P1, q1)]) (i := 1) (t0 := 1) (m := mCall m_roll_read (aCons (mVar 8) aNil)) (τ := [some nsd, b1, some (.int c), some (.loc S1.length), b4, b5, b6, b7, some o, some (.loc SE.length), b10, b11, b12, b13, b14]) (v := w) rfl TF.t1 (by simpa using hw.rr SF)
  have a2 := app_list (y := w) gF (by simp)
  have gG := at_set (c1 := .lst ([v] ++ [w])) gF
  have TG : Tb P0 q0 P1 q1 (SF.set SE.length (.lst ([v] ++ [w]))) := ⟨set_ne TF.t0 (by omega), set_ne TF.t1 (by omega)⟩
  simp only [List.singleton_append] at a2 gG TG
  generalize hSG : SF.set SE.length (C.lst [v, w]) = SG at *
  rw [wpS_seq]
  simp [w2, isTy_list gF, a2, -wpS_seq]
  have hmul : ∀ S, dMulX (.lst [.tup [.str "text", .int (-1)]]) (.int 2) S = .ok (.lst [.tup [.str "text", .int (-1)], .tup [.str "text", .int (-1)]]) S := fun S => by simp [dMulX, guardR]
  have hgr : Gq [2, 2] (.lst [.tup [.str "text", .int (-1)], .tup [.str "text", .int (-1)]]) = true := by decide +kernel
  have hi := hw.isa
  cases b with
  | true =>
    simp [hi]
    exact ⟨hd2, ⟨_, _, _, _, _, _, _, _, _, _, _, _, _, _, rfl⟩, TG⟩
  | false =>
    obtain ⟨rfl, rfl⟩ := hw.no rfl
    have hne := ne_loc hgr (by decide) gG
    simp [hi, hmul, hne, hz]
    exact ⟨hd2, ⟨_, _, _, _, _, _, _, _, _, _, _, _, _, _, rfl⟩, TG⟩
end Sp
namespace Lk92
open PySem L2 Z
theorem law_true (P0 : Addr) (q0 : Str) (P1 : Addr) (q1 : Str) : ∀ ns : List Int, ns.length ≤ 63 → ∃ S', m_law [(P0, q0), (P1, q1)] tblV [.scr (ns.map Z.D.int)] (tabSto [(P0, q0), (P1, q1)]) = .ok (.bl true) S' := fun ns h => by
  obtain ⟨a, S, e, rfl⟩ := wpR_get (Sp.law_wp P0 q0 P1 q1 ns h)
  exact ⟨S, e⟩
end Lk92

/-! the end -/
namespace Lk92
open PySem L2 Z PyProof.Rows Pg V5
theorem tabsAt_two {K : PySem.W.Frag} {h : Heap} {c P d R : Addr} {q r : Str} (e1 : h.get? P = some { cls := .none, data := .fields #[] }) (n1 : K.lookup P = none) (k1 : PySem.W.CodeHd h c P)
    (e2 : h.get? R = some { cls := .none, data := .fields #[] }) (n2 : K.lookup R = none) (k2 : PySem.W.CodeHd h d R) (hne : P ≠ R) : TabsAt K h [(c, P), (d, R)] [(P, q), (R, r)] where
  nd := by simp [hne]
  mem := fun p hp => by
    simp only [List.mem_cons, List.not_mem_nil, or_false] at hp
    rcases hp with rfl | rfl
    · exact ⟨(c, P), by simp, rfl⟩
    · exact ⟨(d, R), by simp, rfl⟩
  mem2 := fun p hp => by
    simp only [List.mem_cons, List.not_mem_nil, or_false] at hp
    rcases hp with rfl | rfl <;> simp
  emp := fun p hp => by
    simp only [List.mem_cons, List.not_mem_nil, or_false] at hp
    rcases hp with rfl | rfl
    · exact e1
    · exact e2
  out := fun p hp => by
    simp only [List.mem_cons, List.not_mem_nil, or_false] at hp
    rcases hp with rfl | rfl
    · exact n1
    · exact n2
  code := fun p hp => by
    simp only [List.mem_cons, List.not_mem_nil, or_false] at hp
    rcases hp with rfl | rfl
    · exact k1
    · exact k2
theorem binds1 {K : PySem.W.Frag} {x qual : Str} {st : Stmt} {f : Addr} {fd : FuncData} {p0 : Str} (F : Fun K x qual st f fd) (h : ∀ (kV doc pm : Value) (an : Option Addr) (cdv ct : Value) (x0 : Value), bindArgs (PySem.W.fnOf x qual (defArgs st) (defBody st) (defScope st) .none kV doc pm an cdv ct) ⟨[x0], []⟩ = pure ([p0].zip [x0])) : Binds K fd [p0] [] :=
  F.binds (ps := [p0]) fun kV doc pm an cdv ct us hl => match us, hl with
    | [x0], _ => h kV doc pm an cdv ct x0
theorem binds2 {K : PySem.W.Frag} {x qual : Str} {st : Stmt} {f : Addr} {fd : FuncData} {p0 p1 : Str} (F : Fun K x qual st f fd) (h : ∀ (kV doc pm : Value) (an : Option Addr) (cdv ct : Value) (x0 x1 : Value), bindArgs (PySem.W.fnOf x qual (defArgs st) (defBody st) (defScope st) .none kV doc pm an cdv ct) ⟨[x0, x1], []⟩ = pure ([p0, p1].zip [x0, x1])) : Binds K fd [p0, p1] [] :=
  F.binds (ps := [p0, p1]) fun kV doc pm an cdv ct us hl => match us, hl with
    | [x0, x1], _ => h kV doc pm an cdv ct x0 x1
theorem binds3 {K : PySem.W.Frag} {x qual : Str} {st : Stmt} {f : Addr} {fd : FuncData} {p0 p1 p2 : Str} (F : Fun K x qual st f fd) (h : ∀ (kV doc pm : Value) (an : Option Addr) (cdv ct : Value) (x0 x1 x2 : Value), bindArgs (PySem.W.fnOf x qual (defArgs st) (defBody st) (defScope st) .none kV doc pm an cdv ct) ⟨[x0, x1, x2], []⟩ = pure ([p0, p1, p2].zip [x0, x1, x2])) : Binds K fd [p0, p1, p2] [] :=
  F.binds (ps := [p0, p1, p2]) fun kV doc pm an cdv ct us hl => match us, hl with
    | [x0, x1, x2], _ => h kV doc pm an cdv ct x0 x1 x2
theorem binds4 {K : PySem.W.Frag} {x qual : Str} {st : Stmt} {f : Addr} {fd : FuncData} {p0 p1 p2 p3 : Str} (F : Fun K x qual st f fd) (h : ∀ (kV doc pm : Value) (an : Option Addr) (cdv ct : Value) (x0 x1 x2 x3 : Value), bindArgs (PySem.W.fnOf x qual (defArgs st) (defBody st) (defScope st) .none kV doc pm an cdv ct) ⟨[x0, x1, x2, x3], []⟩ = pure ([p0, p1, p2, p3].zip [x0, x1, x2, x3])) : Binds K fd [p0, p1, p2, p3] [] :=
  F.binds (ps := [p0, p1, p2, p3]) fun kV doc pm an cdv ct us hl => match us, hl with
    | [x0, x1, x2, x3], _ => h kV doc pm an cdv ct x0 x1 x2 x3
theorem binds5 {K : PySem.W.Frag} {x qual : Str} {st : Stmt} {f : Addr} {fd : FuncData} {p0 p1 p2 p3 p4 : Str} (F : Fun K x qual st f fd) (h : ∀ (kV doc pm : Value) (an : Option Addr) (cdv ct : Value) (x0 x1 x2 x3 x4 : Value), bindArgs (PySem.W.fnOf x qual (defArgs st) (defBody st) (defScope st) .none kV doc pm an cdv ct) ⟨[x0, x1, x2, x3, x4], []⟩ = pure ([p0, p1, p2, p3, p4].zip [x0, x1, x2, x3, x4])) : Binds K fd [p0, p1, p2, p3, p4] [] :=
  F.binds (ps := [p0, p1, p2, p3, p4]) fun kV doc pm an cdv ct us hl => match us, hl with
    | [x0, x1, x2, x3, x4], _ => h kV doc pm an cdv ct x0 x1 x2 x3 x4
theorem binds6 {K : PySem.W.Frag} {x qual : Str} {st : Stmt} {f : Addr} {fd : FuncData} {p0 p1 p2 p3 p4 p5 : Str} (F : Fun K x qual st f fd) (h : ∀ (kV doc pm : Value) (an : Option Addr) (cdv ct : Value) (x0 x1 x2 x3 x4 x5 : Value), bindArgs (PySem.W.fnOf x qual (defArgs st) (defBody st) (defScope st) .none kV doc pm an cdv ct) ⟨[x0, x1, x2, x3, x4, x5], []⟩ = pure ([p0, p1, p2, p3, p4, p5].zip [x0, x1, x2, x3, x4, x5])) : Binds K fd [p0, p1, p2, p3, p4, p5] [] :=
  F.binds (ps := [p0, p1, p2, p3, p4, p5]) fun kV doc pm an cdv ct us hl => match us, hl with
    | [x0, x1, x2, x3, x4, x5], _ => h kV doc pm an cdv ct x0 x1 x2 x3 x4 x5
theorem binds7 {K : PySem.W.Frag} {x qual : Str} {st : Stmt} {f : Addr} {fd : FuncData} {p0 p1 p2 p3 p4 p5 p6 : Str} (F : Fun K x qual st f fd) (h : ∀ (kV doc pm : Value) (an : Option Addr) (cdv ct : Value) (x0 x1 x2 x3 x4 x5 x6 : Value), bindArgs (PySem.W.fnOf x qual (defArgs st) (defBody st) (defScope st) .none kV doc pm an cdv ct) ⟨[x0, x1, x2, x3, x4, x5, x6], []⟩ = pure ([p0, p1, p2, p3, p4, p5, p6].zip [x0, x1, x2, x3, x4, x5, x6])) : Binds K fd [p0, p1, p2, p3, p4, p5, p6] [] :=
  F.binds (ps := [p0, p1, p2, p3, p4, p5, p6]) fun kV doc pm an cdv ct us hl => match us, hl with
    | [x0, x1, x2, x3, x4, x5, x6], _ => h kV doc pm an cdv ct x0 x1 x2 x3 x4 x5 x6
theorem all_mk {l : PySem.W.OpenLaw} {w : World} {K : PySem.W.Frag} {h : Heap} {mg : Str → Option Value} {fa : Addr} (X : K.In h) (G : h.Ns mainGlobals mg) (hfa : mg "law" = some (.ref fa)) (own0 : ∀ ga, mg "_law_right" = some (.ref ga) → LamX.OwnTab K ga h) (own1 : ∀ ga, mg "law" = some (.ref ga) → LamX.OwnTab K ga h)
    {f0 : Addr} {oc0 kV0 dc0 pm0 cd0 ct0 : Value} {od0 an0 : Option Addr} {sl0 : Array (Option Value)} (a0 : PySem.W.nsIn K mainGlobals "is_within" = some (some (.ref f0))) (l0 : K.lookup f0 = some ⟨oc0, od0, .func (PySem.W.fnOf "is_within" "is_within" (defArgs (top 29)) (defBody (top 29)) (defScope (top 29)) .none kV0 dc0 pm0 an0 cd0 ct0), sl0⟩) (c0 : PySem.W.codeIn K cd0 "is_within" = true) (k0 : PySem.W.keepIn K (.ref f0) = true)
    {f1 : Addr} {oc1 kV1 dc1 pm1 cd1 ct1 : Value} {od1 an1 : Option Addr} {sl1 : Array (Option Value)} (a1 : PySem.W.nsIn K mainGlobals "is_upto" = some (some (.ref f1))) (l1 : K.lookup f1 = some ⟨oc1, od1, .func (PySem.W.fnOf "is_upto" "is_upto" (defArgs (top 30)) (defBody (top 30)) (defScope (top 30)) .none kV1 dc1 pm1 an1 cd1 ct1), sl1⟩) (c1 : PySem.W.codeIn K cd1 "is_upto" = true) (k1 : PySem.W.keepIn K (.ref f1) = true)
    {f2 : Addr} {oc2 kV2 dc2 pm2 cd2 ct2 : Value} {od2 an2 : Option Addr} {sl2 : Array (Option Value)} (a2 : PySem.W.nsIn K mainGlobals "is_paper" = some (some (.ref f2))) (l2 : K.lookup f2 = some ⟨oc2, od2, .func (PySem.W.fnOf "is_paper" "is_paper" (defArgs (top 31)) (defBody (top 31)) (defScope (top 31)) .none kV2 dc2 pm2 an2 cd2 ct2), sl2⟩) (c2 : PySem.W.codeIn K cd2 "is_paper" = true) (k2 : PySem.W.keepIn K (.ref f2) = true)
    {f3 : Addr} {oc3 kV3 dc3 pm3 cd3 ct3 : Value} {od3 an3 : Option Addr} {sl3 : Array (Option Value)} (a3 : PySem.W.nsIn K mainGlobals "is_roll" = some (some (.ref f3))) (l3 : K.lookup f3 = some ⟨oc3, od3, .func (PySem.W.fnOf "is_roll" "is_roll" (defArgs (top 32)) (defBody (top 32)) (defScope (top 32)) .none kV3 dc3 pm3 an3 cd3 ct3), sl3⟩) (c3 : PySem.W.codeIn K cd3 "is_roll" = true) (k3 : PySem.W.keepIn K (.ref f3) = true)
    {f4 : Addr} {oc4 kV4 dc4 pm4 cd4 ct4 : Value} {od4 an4 : Option Addr} {sl4 : Array (Option Value)} (a4 : PySem.W.nsIn K mainGlobals "number_in" = some (some (.ref f4))) (l4 : K.lookup f4 = some ⟨oc4, od4, .func (PySem.W.fnOf "number_in" "number_in" (defArgs (top 36)) (defBody (top 36)) (defScope (top 36)) .none kV4 dc4 pm4 an4 cd4 ct4), sl4⟩) (c4 : PySem.W.codeIn K cd4 "number_in" = true) (k4 : PySem.W.keepIn K (.ref f4) = true)
    {f5 : Addr} {oc5 kV5 dc5 pm5 cd5 ct5 : Value} {od5 an5 : Option Addr} {sl5 : Array (Option Value)} (a5 : PySem.W.nsIn K mainGlobals "paper_in" = some (some (.ref f5))) (l5 : K.lookup f5 = some ⟨oc5, od5, .func (PySem.W.fnOf "paper_in" "paper_in" (defArgs (top 37)) (defBody (top 37)) (defScope (top 37)) .none kV5 dc5 pm5 an5 cd5 ct5), sl5⟩) (c5 : PySem.W.codeIn K cd5 "paper_in" = true) (k5 : PySem.W.keepIn K (.ref f5) = true)
    {f6 : Addr} {oc6 kV6 dc6 pm6 cd6 ct6 : Value} {od6 an6 : Option Addr} {sl6 : Array (Option Value)} (a6 : PySem.W.nsIn K mainGlobals "paper_read" = some (some (.ref f6))) (l6 : K.lookup f6 = some ⟨oc6, od6, .func (PySem.W.fnOf "paper_read" "paper_read" (defArgs (top 38)) (defBody (top 38)) (defScope (top 38)) .none kV6 dc6 pm6 an6 cd6 ct6), sl6⟩) (c6 : PySem.W.codeIn K cd6 "paper_read" = true) (k6 : PySem.W.keepIn K (.ref f6) = true)
    {f7 : Addr} {oc7 kV7 dc7 pm7 cd7 ct7 : Value} {od7 an7 : Option Addr} {sl7 : Array (Option Value)} (a7 : PySem.W.nsIn K mainGlobals "roll_read" = some (some (.ref f7))) (l7 : K.lookup f7 = some ⟨oc7, od7, .func (PySem.W.fnOf "roll_read" "roll_read" (defArgs (top 39)) (defBody (top 39)) (defScope (top 39)) .none kV7 dc7 pm7 an7 cd7 ct7), sl7⟩) (c7 : PySem.W.codeIn K cd7 "roll_read" = true) (k7 : PySem.W.keepIn K (.ref f7) = true)
    {f8 : Addr} {oc8 kV8 dc8 pm8 cd8 ct8 : Value} {od8 an8 : Option Addr} {sl8 : Array (Option Value)} (a8 : PySem.W.nsIn K mainGlobals "_law_cell" = some (some (.ref f8))) (l8 : K.lookup f8 = some ⟨oc8, od8, .func (PySem.W.fnOf "_law_cell" "_law_cell" (defArgs (top 41)) (defBody (top 41)) (defScope (top 41)) .none kV8 dc8 pm8 an8 cd8 ct8), sl8⟩) (c8 : PySem.W.codeIn K cd8 "_law_cell" = true) (k8 : PySem.W.keepIn K (.ref f8) = true)
    {f9 : Addr} {oc9 kV9 dc9 pm9 cd9 ct9 : Value} {od9 an9 : Option Addr} {sl9 : Array (Option Value)} (a9 : PySem.W.nsIn K mainGlobals "_law_pen" = some (some (.ref f9))) (l9 : K.lookup f9 = some ⟨oc9, od9, .func (PySem.W.fnOf "_law_pen" "_law_pen" (defArgs (top 42)) (defBody (top 42)) (defScope (top 42)) .none kV9 dc9 pm9 an9 cd9 ct9), sl9⟩) (c9 : PySem.W.codeIn K cd9 "_law_pen" = true) (k9 : PySem.W.keepIn K (.ref f9) = true)
    {f10 : Addr} {oc10 kV10 dc10 pm10 cd10 ct10 : Value} {od10 an10 : Option Addr} {sl10 : Array (Option Value)} (a10 : PySem.W.nsIn K mainGlobals "_law_draw" = some (some (.ref f10))) (l10 : K.lookup f10 = some ⟨oc10, od10, .func (PySem.W.fnOf "_law_draw" "_law_draw" (defArgs (top 43)) (defBody (top 43)) (defScope (top 43)) .none kV10 dc10 pm10 an10 cd10 ct10), sl10⟩) (c10 : PySem.W.codeIn K cd10 "_law_draw" = true) (k10 : PySem.W.keepIn K (.ref f10) = true)
    {f11 : Addr} {oc11 kV11 dc11 pm11 cd11 ct11 : Value} {od11 an11 : Option Addr} {sl11 : Array (Option Value)} (a11 : PySem.W.nsIn K mainGlobals "_law_forms" = some (some (.ref f11))) (l11 : K.lookup f11 = some ⟨oc11, od11, .func (PySem.W.fnOf "_law_forms" "_law_forms" (defArgs (top 44)) (defBody (top 44)) (defScope (top 44)) .none kV11 dc11 pm11 an11 cd11 ct11), sl11⟩) (c11 : PySem.W.codeIn K cd11 "_law_forms" = true) (k11 : PySem.W.keepIn K (.ref f11) = true)
    {f12 : Addr} {oc12 kV12 dc12 pm12 cd12 ct12 : Value} {od12 an12 : Option Addr} {sl12 : Array (Option Value)} (a12 : PySem.W.nsIn K mainGlobals "_law_is_paper" = some (some (.ref f12))) (l12 : K.lookup f12 = some ⟨oc12, od12, .func (PySem.W.fnOf "_law_is_paper" "_law_is_paper" (defArgs (top 45)) (defBody (top 45)) (defScope (top 45)) .none kV12 dc12 pm12 an12 cd12 ct12), sl12⟩) (c12 : PySem.W.codeIn K cd12 "_law_is_paper" = true) (k12 : PySem.W.keepIn K (.ref f12) = true)
    {f13 : Addr} {oc13 kV13 dc13 pm13 cd13 ct13 : Value} {od13 an13 : Option Addr} {sl13 : Array (Option Value)} (a13 : PySem.W.nsIn K mainGlobals "_law_any_paper" = some (some (.ref f13))) (l13 : K.lookup f13 = some ⟨oc13, od13, .func (PySem.W.fnOf "_law_any_paper" "_law_any_paper" (defArgs (top 46)) (defBody (top 46)) (defScope (top 46)) .none kV13 dc13 pm13 an13 cd13 ct13), sl13⟩) (c13 : PySem.W.codeIn K cd13 "_law_any_paper" = true) (k13 : PySem.W.keepIn K (.ref f13) = true)
    {f14 : Addr} {oc14 kV14 dc14 pm14 cd14 ct14 : Value} {od14 an14 : Option Addr} {sl14 : Array (Option Value)} (a14 : PySem.W.nsIn K mainGlobals "_law_odd" = some (some (.ref f14))) (l14 : K.lookup f14 = some ⟨oc14, od14, .func (PySem.W.fnOf "_law_odd" "_law_odd" (defArgs (top 47)) (defBody (top 47)) (defScope (top 47)) .none kV14 dc14 pm14 an14 cd14 ct14), sl14⟩) (c14 : PySem.W.codeIn K cd14 "_law_odd" = true) (k14 : PySem.W.keepIn K (.ref f14) = true)
    {f15 : Addr} {oc15 kV15 dc15 pm15 cd15 ct15 : Value} {od15 an15 : Option Addr} {sl15 : Array (Option Value)} (a15 : PySem.W.nsIn K mainGlobals "_law_kind" = some (some (.ref f15))) (l15 : K.lookup f15 = some ⟨oc15, od15, .func (PySem.W.fnOf "_law_kind" "_law_kind" (defArgs (top 48)) (defBody (top 48)) (defScope (top 48)) .none kV15 dc15 pm15 an15 cd15 ct15), sl15⟩) (c15 : PySem.W.codeIn K cd15 "_law_kind" = true) (k15 : PySem.W.keepIn K (.ref f15) = true)
    {f16 : Addr} {oc16 kV16 dc16 pm16 cd16 ct16 : Value} {od16 an16 : Option Addr} {sl16 : Array (Option Value)} (a16 : PySem.W.nsIn K mainGlobals "_law_text" = some (some (.ref f16))) (l16 : K.lookup f16 = some ⟨oc16, od16, .func (PySem.W.fnOf "_law_text" "_law_text" (defArgs (top 50)) (defBody (top 50)) (defScope (top 50)) .none kV16 dc16 pm16 an16 cd16 ct16), sl16⟩) (c16 : PySem.W.codeIn K cd16 "_law_text" = true) (k16 : PySem.W.keepIn K (.ref f16) = true)
    {f17 : Addr} {oc17 kV17 dc17 pm17 cd17 ct17 : Value} {od17 an17 : Option Addr} {sl17 : Array (Option Value)} (a17 : PySem.W.nsIn K mainGlobals "_law_read_paper" = some (some (.ref f17))) (l17 : K.lookup f17 = some ⟨oc17, od17, .func (PySem.W.fnOf "_law_read_paper" "_law_read_paper" (defArgs (top 51)) (defBody (top 51)) (defScope (top 51)) .none kV17 dc17 pm17 an17 cd17 ct17), sl17⟩) (c17 : PySem.W.codeIn K cd17 "_law_read_paper" = true) (k17 : PySem.W.keepIn K (.ref f17) = true)
    {f18 : Addr} {oc18 kV18 dc18 pm18 cd18 ct18 : Value} {od18 an18 : Option Addr} {sl18 : Array (Option Value)} (a18 : PySem.W.nsIn K mainGlobals "_law_read_roll" = some (some (.ref f18))) (l18 : K.lookup f18 = some ⟨oc18, od18, .func (PySem.W.fnOf "_law_read_roll" "_law_read_roll" (defArgs (top 52)) (defBody (top 52)) (defScope (top 52)) .none kV18 dc18 pm18 an18 cd18 ct18), sl18⟩) (c18 : PySem.W.codeIn K cd18 "_law_read_roll" = true) (k18 : PySem.W.keepIn K (.ref f18) = true)
    {f19 : Addr} {oc19 kV19 dc19 pm19 cd19 ct19 : Value} {od19 an19 : Option Addr} {sl19 : Array (Option Value)} (a19 : PySem.W.nsIn K mainGlobals "_law_bent" = some (some (.ref f19))) (l19 : K.lookup f19 = some ⟨oc19, od19, .func (PySem.W.fnOf "_law_bent" "_law_bent" (defArgs (top 53)) (defBody (top 53)) (defScope (top 53)) .none kV19 dc19 pm19 an19 cd19 ct19), sl19⟩) (c19 : PySem.W.codeIn K cd19 "_law_bent" = true) (k19 : PySem.W.keepIn K (.ref f19) = true)
    {f20 : Addr} {oc20 kV20 dc20 pm20 cd20 ct20 : Value} {od20 an20 : Option Addr} {sl20 : Array (Option Value)} (a20 : PySem.W.nsIn K mainGlobals "_law_right" = some (some (.ref f20))) (l20 : K.lookup f20 = some ⟨oc20, od20, .func (PySem.W.fnOf "_law_right" "_law_right" (defArgs (top 54)) (defBody (top 54)) (defScope (top 54)) .none kV20 dc20 pm20 an20 cd20 ct20), sl20⟩) (c20 : PySem.W.codeIn K cd20 "_law_right" = true) (k20 : PySem.W.keepIn K (.ref f20) = true)
    {cc0 PP0 : Addr} {dcc0 : Option Addr} {vcc0 : Array Value} {scc0 : Array (Option Value)} (hcc0 : cd20 = .ref cc0) (lcc0 : K.lookup cc0 = some ⟨.type "code", dcc0, .fields vcc0, scc0⟩) (CF0 : CodeF vcc0 PP0) (nP0 : K.lookup PP0 = none)
    {f21 : Addr} {oc21 kV21 dc21 pm21 cd21 ct21 : Value} {od21 an21 : Option Addr} {sl21 : Array (Option Value)} (a21 : PySem.W.nsIn K mainGlobals "law" = some (some (.ref f21))) (l21 : K.lookup f21 = some ⟨oc21, od21, .func (PySem.W.fnOf "law" "law" (defArgs (top 55)) (defBody (top 55)) (defScope (top 55)) .none kV21 dc21 pm21 an21 cd21 ct21), sl21⟩) (c21 : PySem.W.codeIn K cd21 "law" = true) (k21 : PySem.W.keepIn K (.ref f21) = true)
    {cc1 PP1 : Addr} {dcc1 : Option Addr} {vcc1 : Array Value} {scc1 : Array (Option Value)} (hcc1 : cd21 = .ref cc1) (lcc1 : K.lookup cc1 = some ⟨.type "code", dcc1, .fields vcc1, scc1⟩) (CF1 : CodeF vcc1 PP1) (nP1 : K.lookup PP1 = none)
    {f22 : Addr} {oc22 kV22 dc22 pm22 cd22 ct22 : Value} {od22 an22 : Option Addr} {sl22 : Array (Option Value)} (a22 : PySem.W.nsIn K mainGlobals "_law_word" = some (some (.ref f22))) (l22 : K.lookup f22 = some ⟨oc22, od22, .func (PySem.W.fnOf "_law_word" "_law_word" (defArgs (top 49)) (defBody (top 49)) (defScope (top 49)) .none kV22 dc22 pm22 an22 cd22 ct22), sl22⟩) (c22 : PySem.W.codeIn K cd22 "_law_word" = true) (k22 : PySem.W.keepIn K (.ref f22) = true)
    (hB : clsB K (("BenchError" : Str) :: tstC) = true) (hO : (rsdC.all fun c => ownB K "BenchError" tstC c) = true)
    {cX_NoText fI_NoText : Addr} {ocI_NoText kVI_NoText dcI_NoText pmI_NoText cdI_NoText ctI_NoText : Value} {odI_NoText anI_NoText : Option Addr} {slI_NoText : Array (Option Value)} (zX_NoText : PySem.W.nsIn K mainGlobals "NoText" = some (some (.ref cX_NoText))) (hX_NoText : ownXB K "BenchError" tstC "NoText" ["at"] = true) (aI_NoText : PySem.W.findIn K (.ref cX_NoText) "__init__" = some (some (.ref fI_NoText))) (lI_NoText : K.lookup fI_NoText = some ⟨ocI_NoText, odI_NoText, .func (PySem.W.fnOf "__init__" "NoText.__init__" (defArgs (clsDef (top 19) 0)) (defBody (clsDef (top 19) 0)) (defScope (clsDef (top 19) 0)) .none kVI_NoText dcI_NoText pmI_NoText anI_NoText cdI_NoText ctI_NoText), slI_NoText⟩) (cI_NoText : PySem.W.codeIn K cdI_NoText "NoText.__init__" = true) (kI_NoText : PySem.W.keepIn K (.ref fI_NoText) = true) (tyI_NoText : PySem.W.typeIn K (.ref fI_NoText) = some (.type "function"))
    {bE : Addr} (zbE : PySem.W.nsIn K mainGlobals "BenchError" = some (some (.ref bE))) (hbE : baseB K bE = true)
    (z_ValueError : PySem.W.nsIn K mainGlobals "ValueError" = some none)
    (z_all : PySem.W.nsIn K mainGlobals "all" = some none)
    (z_bool : PySem.W.nsIn K mainGlobals "bool" = some none)
    (z_divmod : PySem.W.nsIn K mainGlobals "divmod" = some none)
    (z_int : PySem.W.nsIn K mainGlobals "int" = some none)
    (z_isinstance : PySem.W.nsIn K mainGlobals "isinstance" = some none)
    (z_len : PySem.W.nsIn K mainGlobals "len" = some none)
    (z_max : PySem.W.nsIn K mainGlobals "max" = some none)
    (z_range : PySem.W.nsIn K mainGlobals "range" = some none)
    (z_repr : PySem.W.nsIn K mainGlobals "repr" = some none)
    (z_set : PySem.W.nsIn K mainGlobals "set" = some none)
    (z_sorted : PySem.W.nsIn K mainGlobals "sorted" = some none)
    (z_str : PySem.W.nsIn K mainGlobals "str" = some none)
    (z_tuple : PySem.W.nsIn K mainGlobals "tuple" = some none)
    (z_zip : PySem.W.nsIn K mainGlobals "zip" = some none)
    {t_DAYS : Tok} (z_DAYS : PySem.W.nsIn K mainGlobals "DAYS" = some (some (.int 61 t_DAYS)))
    {t_EMPTY : Tok} (z_EMPTY : PySem.W.nsIn K mainGlobals "EMPTY" = some (some (.str "empty" t_EMPTY)))
    {t_FIGURES : Tok} (z_FIGURES : PySem.W.nsIn K mainGlobals "FIGURES" = some (some (.str "0123456789" t_FIGURES)))
    {qd_FORMS : Addr} {nd_FORMS : Nat} {tk1 : Tok} {tl3 : Tok} {tl4 : Tok} {tl5 : Tok} {tl6 : Tok} {pl2 : Addr} {nl2 : Nat} {dl2 : Option Addr} {sl2 : Array (Option Value)} {tk7 : Tok} {tl9 : Tok} {tl10 : Tok} {pl8 : Addr} {nl8 : Nat} {dl8 : Option Addr} {sl8 : Array (Option Value)} {tk11 : Tok} {tl13 : Tok} {pl12 : Addr} {nl12 : Nat} {dl12 : Option Addr} {sl12 : Array (Option Value)} {tk14 : Tok} {tl16 : Tok} {tl17 : Tok} {pl15 : Addr} {nl15 : Nat} {dl15 : Option Addr} {sl15 : Array (Option Value)} {tk18 : Tok} {tl20 : Tok} {pl19 : Addr} {nl19 : Nat} {dl19 : Option Addr} {sl19 : Array (Option Value)} {tk21 : Tok} {tl23 : Tok} {pl22 : Addr} {nl22 : Nat} {dl22 : Option Addr} {sl22 : Array (Option Value)} {tk24 : Tok} {tl26 : Tok} {tl27 : Tok} {pl25 : Addr} {nl25 : Nat} {dl25 : Option Addr} {sl25 : Array (Option Value)} {tk28 : Tok} {tl30 : Tok} {tl31 : Tok} {pl29 : Addr} {nl29 : Nat} {dl29 : Option Addr} {sl29 : Array (Option Value)} {tk32 : Tok} {tl34 : Tok} {tl35 : Tok} {pl33 : Addr} {nl33 : Nat} {dl33 : Option Addr} {sl33 : Array (Option Value)} {tk36 : Tok} {tl38 : Tok} {pl37 : Addr} {nl37 : Nat} {dl37 : Option Addr} {sl37 : Array (Option Value)}
    (z_FORMS : PySem.W.nsIn K mainGlobals "FORMS" = some (some (.ref qd_FORMS))) (ld_FORMS : K.lookup qd_FORMS = some ⟨.type "dict", none, .dict #[⟨PyData.keyHash w.params "charge", .str "charge" tk1, .ref pl2⟩, ⟨PyData.keyHash w.params "bill", .str "bill" tk7, .ref pl8⟩, ⟨PyData.keyHash w.params "hold", .str "hold" tk11, .ref pl12⟩, ⟨PyData.keyHash w.params "pledge", .str "pledge" tk14, .ref pl15⟩, ⟨PyData.keyHash w.params "miss", .str "miss" tk18, .ref pl19⟩, ⟨PyData.keyHash w.params "over", .str "over" tk21, .ref pl22⟩, ⟨PyData.keyHash w.params "move", .str "move" tk24, .ref pl25⟩, ⟨PyData.keyHash w.params "judge", .str "judge" tk28, .ref pl29⟩, ⟨PyData.keyHash w.params "pardon", .str "pardon" tk32, .ref pl33⟩, ⟨PyData.keyHash w.params "aside", .str "aside" tk36, .ref pl37⟩] nd_FORMS, #[]⟩) (sy_FORMS : (qd_FORMS == sysModules) = false) (lq2 : K.lookup pl2 = some ⟨.type "tuple", dl2, .seq #[.int 6 tl3, .int 6 tl4, .int 4 tl5, .int 4 tl6] nl2, sl2⟩) (lq8 : K.lookup pl8 = some ⟨.type "tuple", dl8, .seq #[.int 6 tl9, .int 2 tl10] nl8, sl8⟩) (lq12 : K.lookup pl12 = some ⟨.type "tuple", dl12, .seq #[.int 6 tl13] nl12, sl12⟩) (lq15 : K.lookup pl15 = some ⟨.type "tuple", dl15, .seq #[.int 6 tl16, .int 6 tl17] nl15, sl15⟩) (lq19 : K.lookup pl19 = some ⟨.type "tuple", dl19, .seq #[.int 6 tl20] nl19, sl19⟩) (lq22 : K.lookup pl22 = some ⟨.type "tuple", dl22, .seq #[.int 6 tl23] nl22, sl22⟩) (lq25 : K.lookup pl25 = some ⟨.type "tuple", dl25, .seq #[.int 6 tl26, .int 4 tl27] nl25, sl25⟩) (lq29 : K.lookup pl29 = some ⟨.type "tuple", dl29, .seq #[.int 6 tl30, .int 2 tl31] nl29, sl29⟩) (lq33 : K.lookup pl33 = some ⟨.type "tuple", dl33, .seq #[.int 6 tl34, .int 4 tl35] nl33, sl33⟩) (lq37 : K.lookup pl37 = some ⟨.type "tuple", dl37, .seq #[.int 6 tl38] nl37, sl37⟩)
    {t_MOST_PAPERS : Tok} (z_MOST_PAPERS : PySem.W.nsIn K mainGlobals "MOST_PAPERS" = some (some (.int 24 t_MOST_PAPERS)))
    (hPP : PP0 ≠ PP1)
    : ∃ (fd : FuncData) (f : List D → Sto → R D) (cs : List (Addr × Addr)) (Ts : List (Addr × Str)), TabsAt K h cs Ts ∧ (∀ (s : Shared) (u : Value), BindsTo s fd ⟨[u], []⟩ [("_law_script", u)]) ∧ (∀ base : Heap, K.In base → base.Ns mainGlobals mg → (∀ q ∈ cs, LamX.TabB base mg q.1 q.2) → FnG l.prog w K mg base 9 fa fd ["_law_script"] f) ∧ ∀ ns : List Int, ns.length ≤ 63 → ∃ S', f [.scr (ns.map D.int)] (tabSto Ts) = .ok (.bl true) S' := by
  have e := hfa.symm.trans (PySem.W.mg_of X G a21)
  cases e
  let T : Tx w.params K mg := {
    a_is_within := f0
    fd_is_within := _
    F_is_within := fun_mk (st := top 29) l0 c0 k0
    g_is_within := PySem.W.mg_of X G a0
    b_is_within := binds3 (fun_mk (st := top 29) l0 c0 k0) fun _ _ _ _ _ _ _ _ _ => rfl
    a_is_upto := f1
    fd_is_upto := _
    F_is_upto := fun_mk (st := top 30) l1 c1 k1
    g_is_upto := PySem.W.mg_of X G a1
    b_is_upto := binds2 (fun_mk (st := top 30) l1 c1 k1) fun _ _ _ _ _ _ _ _ => rfl
    a_is_paper := f2
    fd_is_paper := _
    F_is_paper := fun_mk (st := top 31) l2 c2 k2
    g_is_paper := PySem.W.mg_of X G a2
    b_is_paper := binds1 (fun_mk (st := top 31) l2 c2 k2) fun _ _ _ _ _ _ _ => rfl
    a_is_roll := f3
    fd_is_roll := _
    F_is_roll := fun_mk (st := top 32) l3 c3 k3
    g_is_roll := PySem.W.mg_of X G a3
    b_is_roll := binds1 (fun_mk (st := top 32) l3 c3 k3) fun _ _ _ _ _ _ _ => rfl
    a_number_in := f4
    fd_number_in := _
    F_number_in := fun_mk (st := top 36) l4 c4 k4
    g_number_in := PySem.W.mg_of X G a4
    b_number_in := binds1 (fun_mk (st := top 36) l4 c4 k4) fun _ _ _ _ _ _ _ => rfl
    a_paper_in := f5
    fd_paper_in := _
    F_paper_in := fun_mk (st := top 37) l5 c5 k5
    g_paper_in := PySem.W.mg_of X G a5
    b_paper_in := binds1 (fun_mk (st := top 37) l5 c5 k5) fun _ _ _ _ _ _ _ => rfl
    a_paper_read := f6
    fd_paper_read := _
    F_paper_read := fun_mk (st := top 38) l6 c6 k6
    g_paper_read := PySem.W.mg_of X G a6
    b_paper_read := binds1 (fun_mk (st := top 38) l6 c6 k6) fun _ _ _ _ _ _ _ => rfl
    a_roll_read := f7
    fd_roll_read := _
    F_roll_read := fun_mk (st := top 39) l7 c7 k7
    g_roll_read := PySem.W.mg_of X G a7
    b_roll_read := binds1 (fun_mk (st := top 39) l7 c7 k7) fun _ _ _ _ _ _ _ => rfl
    a_law_cell := f8
    fd_law_cell := _
    F_law_cell := fun_mk (st := top 41) l8 c8 k8
    g_law_cell := PySem.W.mg_of X G a8
    b_law_cell := binds2 (fun_mk (st := top 41) l8 c8 k8) fun _ _ _ _ _ _ _ _ => rfl
    a_law_pen := f9
    fd_law_pen := _
    F_law_pen := fun_mk (st := top 42) l9 c9 k9
    g_law_pen := PySem.W.mg_of X G a9
    b_law_pen := binds1 (fun_mk (st := top 42) l9 c9 k9) fun _ _ _ _ _ _ _ => rfl
    a_law_draw := f10
    fd_law_draw := _
    F_law_draw := fun_mk (st := top 43) l10 c10 k10
    g_law_draw := PySem.W.mg_of X G a10
    b_law_draw := binds2 (fun_mk (st := top 43) l10 c10 k10) fun _ _ _ _ _ _ _ _ => rfl
    a_law_forms := f11
    fd_law_forms := _
    F_law_forms := fun_mk (st := top 44) l11 c11 k11
    g_law_forms := PySem.W.mg_of X G a11
    b_law_forms := (fun_mk (st := top 44) l11 c11 k11).binds (ps := []) fun _ _ _ _ _ _ us hl => match us, hl with | [], _ => rfl
    a_law_is_paper := f12
    fd_law_is_paper := _
    F_law_is_paper := fun_mk (st := top 45) l12 c12 k12
    g_law_is_paper := PySem.W.mg_of X G a12
    b_law_is_paper := binds1 (fun_mk (st := top 45) l12 c12 k12) fun _ _ _ _ _ _ _ => rfl
    a_law_any_paper := f13
    fd_law_any_paper := _
    F_law_any_paper := fun_mk (st := top 46) l13 c13 k13
    g_law_any_paper := PySem.W.mg_of X G a13
    b_law_any_paper := binds1 (fun_mk (st := top 46) l13 c13 k13) fun _ _ _ _ _ _ _ => rfl
    a_law_odd := f14
    fd_law_odd := _
    F_law_odd := fun_mk (st := top 47) l14 c14 k14
    g_law_odd := PySem.W.mg_of X G a14
    b_law_odd := binds1 (fun_mk (st := top 47) l14 c14 k14) fun _ _ _ _ _ _ _ => rfl
    a_law_kind := f15
    fd_law_kind := _
    F_law_kind := fun_mk (st := top 48) l15 c15 k15
    g_law_kind := PySem.W.mg_of X G a15
    b_law_kind := binds1 (fun_mk (st := top 48) l15 c15 k15) fun _ _ _ _ _ _ _ => rfl
    a_law_text := f16
    fd_law_text := _
    F_law_text := fun_mk (st := top 50) l16 c16 k16
    g_law_text := PySem.W.mg_of X G a16
    b_law_text := binds1 (fun_mk (st := top 50) l16 c16 k16) fun _ _ _ _ _ _ _ => rfl
    a_law_read_paper := f17
    fd_law_read_paper := _
    F_law_read_paper := fun_mk (st := top 51) l17 c17 k17
    g_law_read_paper := PySem.W.mg_of X G a17
    b_law_read_paper := binds1 (fun_mk (st := top 51) l17 c17 k17) fun _ _ _ _ _ _ _ => rfl
    a_law_read_roll := f18
    fd_law_read_roll := _
    F_law_read_roll := fun_mk (st := top 52) l18 c18 k18
    g_law_read_roll := PySem.W.mg_of X G a18
    b_law_read_roll := binds1 (fun_mk (st := top 52) l18 c18 k18) fun _ _ _ _ _ _ _ => rfl
    a_law_bent := f19
    fd_law_bent := _
    F_law_bent := fun_mk (st := top 53) l19 c19 k19
    g_law_bent := PySem.W.mg_of X G a19
    b_law_bent := binds2 (fun_mk (st := top 53) l19 c19 k19) fun _ _ _ _ _ _ _ _ => rfl
    a_law_right := f20
    fd_law_right := _
    F_law_right := fun_mk (st := top 54) l20 c20 k20
    g_law_right := PySem.W.mg_of X G a20
    b_law_right := binds1 (fun_mk (st := top 54) l20 c20 k20) fun _ _ _ _ _ _ _ => rfl
    cc0 := cc0
    PP0 := PP0
    hcc0 := hcc0
    a_law := fa
    fd_law := _
    F_law := fun_mk (st := top 55) l21 c21 k21
    g_law := PySem.W.mg_of X G a21
    b_law := binds1 (fun_mk (st := top 55) l21 c21 k21) fun _ _ _ _ _ _ _ => rfl
    cc1 := cc1
    PP1 := PP1
    hcc1 := hcc1
    a_law_word := f22
    fd_law_word := _
    F_law_word := fun_mk (st := top 49) l22 c22 k22
    g_law_word := PySem.W.mg_of X G a22
    b_law_word := binds1 (fun_mk (st := top 49) l22 c22 k22) fun _ _ _ _ _ _ _ => rfl
    gc := gc_ok X G hB
    own := own_ok hO
    e_NoPaper := (own_ok hO "NoPaper" (by decide +kernel)).choose
    o_NoPaper := (own_ok hO "NoPaper" (by decide +kernel)).choose_spec
    e_NoText := cX_NoText
    x_NoText := ownX_at (ownXB_ok hX_NoText) (clsAt_of zX_NoText)
    a_NoText_init := fI_NoText
    fd_NoText_init := _
    F_NoText_init := fun_mk (st := clsDef (top 19) 0) lI_NoText cI_NoText kI_NoText
    b_NoText_init := (fun_mk (st := clsDef (top 19) 0) lI_NoText cI_NoText kI_NoText).binds (ps := ["self", "at"]) fun _ _ _ _ _ _ us hl => match us, hl with | [_, _], _ => rfl
    iC_NoText := aI_NoText
    tI_NoText := tyI_NoText
    e_BE := bE
    g_BE := PySem.W.mg_of X G zbE
    bi := baseB_ok hbE
    n_ValueError := PySem.W.mg_none_of X G z_ValueError
    n_all := PySem.W.mg_none_of X G z_all
    n_bool := PySem.W.mg_none_of X G z_bool
    n_divmod := PySem.W.mg_none_of X G z_divmod
    n_int := PySem.W.mg_none_of X G z_int
    n_isinstance := PySem.W.mg_none_of X G z_isinstance
    n_len := PySem.W.mg_none_of X G z_len
    n_max := PySem.W.mg_none_of X G z_max
    n_range := PySem.W.mg_none_of X G z_range
    n_repr := PySem.W.mg_none_of X G z_repr
    n_set := PySem.W.mg_none_of X G z_set
    n_sorted := PySem.W.mg_none_of X G z_sorted
    n_str := PySem.W.mg_none_of X G z_str
    n_tuple := PySem.W.mg_none_of X G z_tuple
    n_zip := PySem.W.mg_none_of X G z_zip
    c_DAYS := ⟨_, PySem.W.mg_of X G z_DAYS⟩
    c_EMPTY := ⟨_, PySem.W.mg_of X G z_EMPTY⟩
    c_FIGURES := ⟨_, PySem.W.mg_of X G z_FIGURES⟩
    q_FORMS := qd_FORMS
    c_FORMS := PySem.W.mg_of X G z_FORMS
    d_FORMS := ⟨⟨_, _, ld_FORMS, (.cons (.tup lq2 (Nat.le_of_ble_eq_true rfl) (.cons (.int _ _) (.cons (.int _ _) (.cons (.int _ _) (.cons (.int _ _) .nil))))) (.cons (.tup lq8 (Nat.le_of_ble_eq_true rfl) (.cons (.int _ _) (.cons (.int _ _) .nil))) (.cons (.tup lq12 (Nat.le_of_ble_eq_true rfl) (.cons (.int _ _) .nil)) (.cons (.tup lq15 (Nat.le_of_ble_eq_true rfl) (.cons (.int _ _) (.cons (.int _ _) .nil))) (.cons (.tup lq19 (Nat.le_of_ble_eq_true rfl) (.cons (.int _ _) .nil)) (.cons (.tup lq22 (Nat.le_of_ble_eq_true rfl) (.cons (.int _ _) .nil)) (.cons (.tup lq25 (Nat.le_of_ble_eq_true rfl) (.cons (.int _ _) (.cons (.int _ _) .nil))) (.cons (.tup lq29 (Nat.le_of_ble_eq_true rfl) (.cons (.int _ _) (.cons (.int _ _) .nil))) (.cons (.tup lq33 (Nat.le_of_ble_eq_true rfl) (.cons (.int _ _) (.cons (.int _ _) .nil))) (.cons (.tup lq37 (Nat.le_of_ble_eq_true rfl) (.cons (.int _ _) .nil)) .nil))))))))))⟩, sy_FORMS⟩
    c_MOST_PAPERS := ⟨_, PySem.W.mg_of X G z_MOST_PAPERS⟩ }
  have emp0 := own0 _ (PySem.W.mg_of X G a20) cc0 PP0 _ _ _ _ _ _ l20 rfl hcc0 lcc0 CF0.choose_spec.choose_spec.choose_spec.choose_spec.choose_spec.choose_spec.choose_spec.1
  have emp1 := own1 _ (PySem.W.mg_of X G a21) cc1 PP1 _ _ _ _ _ _ l21 rfl hcc1 lcc1 CF1.choose_spec.choose_spec.choose_spec.choose_spec.choose_spec.choose_spec.choose_spec.1
  exact ⟨T.fd_law, m_law T.Ts tblV, T.cs, T.Ts, tabsAt_two emp0 nP0 (codeHd_of X lcc0 CF0 nP0) emp1 nP1 (codeHd_of X lcc1 CF1 nP1) hPP, fun s v => .of_eq rfl, fun base _ _ hTB => ok_law T hTB, law_true PP0 lamQ0 PP1 lamQ1⟩
end Lk92
open PySem PySem.W PyProof.Rows
set_option maxRecDepth 100000 in
set_option maxHeartbeats 0 in
theorem PySem.Challenge.cw_ridingbench_k92_texts_that_write_papers_holds : PySem.Challenge.rw_ridingbench_k92_texts_that_write_papers.Holds := by
  w_on; o_law; k_head; (case hw => w_witness2)
  k_fill
  refine Z.walk_GT ["_law_right", "law"] (l := PySem.Challenge.rw_ridingbench_k92_texts_that_write_papers) (n := 63) (k := 9) (x := "_law_script") rfl (by decide) rfl ⟨rfl, by decide, by decide⟩ rfl (fun w h Y => PySem.W.km_in_of Y) ?F
  intro w mg fa h KX G hmg own
  refine' Lk92.all_mk KX G hmg (fun ga hg => own _ (by simp) ga hg) (fun ga hg => own _ (by simp) ga hg) ?a0 ?l0 ?c0 ?k0 ?a1 ?l1 ?c1 ?k1 ?a2 ?l2 ?c2 ?k2 ?a3 ?l3 ?c3 ?k3 ?a4 ?l4 ?c4 ?k4 ?a5 ?l5 ?c5 ?k5 ?a6 ?l6 ?c6 ?k6 ?a7 ?l7 ?c7 ?k7 ?a8 ?l8 ?c8 ?k8 ?a9 ?l9 ?c9 ?k9 ?a10 ?l10 ?c10 ?k10 ?a11 ?l11 ?c11 ?k11 ?a12 ?l12 ?c12 ?k12 ?a13 ?l13 ?c13 ?k13 ?a14 ?l14 ?c14 ?k14 ?a15 ?l15 ?c15 ?k15 ?a16 ?l16 ?c16 ?k16 ?a17 ?l17 ?c17 ?k17 ?a18 ?l18 ?c18 ?k18 ?a19 ?l19 ?c19 ?k19 ?a20 ?l20 ?c20 ?k20 ?hcc0 ?lcc0 ?CF0 ?nP0 ?a21 ?l21 ?c21 ?k21 ?hcc1 ?lcc1 ?CF1 ?nP1 ?a22 ?l22 ?c22 ?k22 ?hB ?hO ?zX_NoText ?hX_NoText ?aI_NoText ?lI_NoText ?cI_NoText ?kI_NoText ?tyI_NoText ?zbE ?hbE ?z_ValueError ?z_all ?z_bool ?z_divmod ?z_int ?z_isinstance ?z_len ?z_max ?z_range ?z_repr ?z_set ?z_sorted ?z_str ?z_tuple ?z_zip ?z_DAYS ?z_EMPTY ?z_FIGURES ?z_FORMS ?ld_FORMS ?sy_FORMS ?lq2 ?lq8 ?lq12 ?lq15 ?lq19 ?lq22 ?lq25 ?lq29 ?lq33 ?lq37 ?z_MOST_PAPERS ?hPP
  (case a0 => k_is)
  (case l0 => k_is)
  (case c0 => k_is)
  (case k0 => k_is)
  (case a1 => k_is)
  (case l1 => k_is)
  (case c1 => k_is)
  (case k1 => k_is)
  (case a2 => k_is)
  (case l2 => k_is)
  (case c2 => k_is)
  (case k2 => k_is)
  (case a3 => k_is)
  (case l3 => k_is)
  (case c3 => k_is)
  (case k3 => k_is)
  (case a4 => k_is)
  (case l4 => k_is)
  (case c4 => k_is)
  (case k4 => k_is)
  (case a5 => k_is)
  (case l5 => k_is)
  (case c5 => k_is)
  (case k5 => k_is)
  (case a6 => k_is)
  (case l6 => k_is)
  (case c6 => k_is)
  (case k6 => k_is)
  (case a7 => k_is)
  (case l7 => k_is)
  (case c7 => k_is)
  (case k7 => k_is)
  (case a8 => k_is)
  (case l8 => k_is)
  (case c8 => k_is)
  (case k8 => k_is)
  (case a9 => k_is)
  (case l9 => k_is)
  (case c9 => k_is)
  (case k9 => k_is)
  (case a10 => k_is)
  (case l10 => k_is)
  (case c10 => k_is)
  (case k10 => k_is)
  (case a11 => k_is)
  (case l11 => k_is)
  (case c11 => k_is)
  (case k11 => k_is)
  (case a12 => k_is)
  (case l12 => k_is)
  (case c12 => k_is)
  (case k12 => k_is)
  (case a13 => k_is)
  (case l13 => k_is)
  (case c13 => k_is)
  (case k13 => k_is)
  (case a14 => k_is)
  (case l14 => k_is)
  (case c14 => k_is)
  (case k14 => k_is)
  (case a15 => k_is)
  (case l15 => k_is)
  (case c15 => k_is)
  (case k15 => k_is)
  (case a16 => k_is)
  (case l16 => k_is)
  (case c16 => k_is)
  (case k16 => k_is)
  (case a17 => k_is)
  (case l17 => k_is)
  (case c17 => k_is)
  (case k17 => k_is)
  (case a18 => k_is)
  (case l18 => k_is)
  (case c18 => k_is)
  (case k18 => k_is)
  (case a19 => k_is)
  (case l19 => k_is)
  (case c19 => k_is)
  (case k19 => k_is)
  (case a20 => k_is)
  (case l20 => k_is)
  (case c20 => k_is)
  (case k20 => k_is)
  (case hcc0 => rfl)
  (case lcc0 => k_is)
  (case CF0 => exact ⟨_, _, _, _, _, _, _, rfl, rfl, rfl, rfl, rfl, rfl⟩)
  (case nP0 => rfl)
  (case a21 => k_is)
  (case l21 => k_is)
  (case c21 => k_is)
  (case k21 => k_is)
  (case hcc1 => rfl)
  (case lcc1 => k_is)
  (case CF1 => exact ⟨_, _, _, _, _, _, _, rfl, rfl, rfl, rfl, rfl, rfl⟩)
  (case nP1 => rfl)
  (case a22 => k_is)
  (case l22 => k_is)
  (case c22 => k_is)
  (case k22 => k_is)
  (case hB => kernel_rfl)
  (case hO => kernel_rfl)
  (case zX_NoText => k_is)
  (case hX_NoText => kernel_rfl)
  (case aI_NoText => k_is)
  (case lI_NoText => k_is)
  (case cI_NoText => k_is)
  (case kI_NoText => k_is)
  (case tyI_NoText => k_is)
  (case zbE => k_is)
  (case hbE => kernel_rfl)
  (case z_ValueError => k_is)
  (case z_all => k_is)
  (case z_bool => k_is)
  (case z_divmod => k_is)
  (case z_int => k_is)
  (case z_isinstance => k_is)
  (case z_len => k_is)
  (case z_max => k_is)
  (case z_range => k_is)
  (case z_repr => k_is)
  (case z_set => k_is)
  (case z_sorted => k_is)
  (case z_str => k_is)
  (case z_tuple => k_is)
  (case z_zip => k_is)
  (case z_DAYS => k_is)
  (case z_EMPTY => k_is)
  (case z_FIGURES => k_is)
  (case z_FORMS => k_is)
  (case ld_FORMS => k_is)
  (case sy_FORMS => rfl)
  (case lq2 => k_is)
  (case lq8 => k_is)
  (case lq12 => k_is)
  (case lq15 => k_is)
  (case lq19 => k_is)
  (case lq22 => k_is)
  (case lq25 => k_is)
  (case lq29 => k_is)
  (case lq33 => k_is)
  (case lq37 => k_is)
  (case z_MOST_PAPERS => k_is)
  (case hPP => decide)
